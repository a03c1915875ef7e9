/-
  What each function of the law computes, as a plain function.
-/
import Derived.Test.YtobhcnmeflacnaaGreatDoorFnExactIsFulfilledLnC
set_option maxHeartbeats 4000000
set_option linter.unusedVariables false
set_option linter.unusedSimpArgs false
set_option maxRecDepth 100000
namespace Go.Ln
open Go
structure Condition where
 Op:Int
 Name:ah
 Day:Int
 Parts:List Condition
mutual
def ac:Condition→V
 | ⟨a0,a1,a2,a3⟩=>.agg [I a0,str a1,I a2,.isl false (ci a3)]
def ci:List Condition→List V
 | []=>[]
 | x::xs=>ac x::ci xs
end
theorem mc:∀xs,ci xs=xs.map ac
 | []=>by simp[ci]
 | x::xs=>by simp[ci,mc xs]
def aU (x:Condition):V:=.agg [I x.Op,str x.Name,I x.Day,.isl false (x.Parts.map ac)]
theorem ce (x:Condition):ac x=aU x:=by cases x;simp only[ac,aU,mc]
mutual
theorem dW:∀(a b:Condition),ac a=ac b→a=b
 | ⟨a0,a1,a2,a3⟩,⟨b0,b1,b2,b3⟩,h=>by
  simp only[ac] at h
  have k0:=V.agg.inj h
  obtain⟨h0,k1⟩:=List.cons.inj k0
  obtain rfl:=bO a0 b0 h0
  obtain⟨h1,k2⟩:=List.cons.inj k1
  obtain rfl:=bm a1 b1 h1
  obtain⟨h2,k3⟩:=List.cons.inj k2
  obtain rfl:=bO a2 b2 h2
  obtain⟨h3,k4⟩:=List.cons.inj k3
  have e3:ci a3=ci b3:=by simpa using h3
  obtain rfl:=mb a3 b3 e3
  rfl
theorem mb:∀(a b:List Condition),ci a=ci b→a=b
 | [],[],_=>rfl
 | [],_::_,h=>by simp[ci] at h
 | _::_,[],h=>by simp[ci] at h
 | x::xs,y::ys,h=>by
  simp only[ci,List.cons.injEq] at h
  rw[dW x y h.1,mb xs ys h.2]
end
theorem cf (a b:Condition)(h:aU a=aU b):a=b:=dW a b (by rw[ce,ce,h])
mutual
def ap:Condition→V
 | ⟨a0,a1,a2,a3⟩=>.agg [I a0,str a1,I a2,.usl 4 (bX a3)]
def bX:List Condition→List V
 | []=>[]
 | x::xs=>ap x::bX xs
end
theorem md:∀xs,bX xs=xs.map ap
 | []=>by simp[bX]
 | x::xs=>by simp[bX,md xs]
def pe (x:Condition):V:=.agg [I x.Op,str x.Name,I x.Day,.usl 4 (x.Parts.map ap)]
theorem ka (x:Condition):ap x=pe x:=by cases x;simp only[ap,pe,md]
mutual
theorem uJ:∀(a b:Condition),ap a=ap b→a=b
 | ⟨a0,a1,a2,a3⟩,⟨b0,b1,b2,b3⟩,h=>by
  simp only[ap] at h
  have k0:=V.agg.inj h
  obtain⟨h0,k1⟩:=List.cons.inj k0
  obtain rfl:=bO a0 b0 h0
  obtain⟨h1,k2⟩:=List.cons.inj k1
  obtain rfl:=bm a1 b1 h1
  obtain⟨h2,k3⟩:=List.cons.inj k2
  obtain rfl:=bO a2 b2 h2
  obtain⟨h3,k4⟩:=List.cons.inj k3
  have e3:bX a3=bX b3:=by simpa using h3
  obtain rfl:=mg a3 b3 e3
  rfl
theorem mg:∀(a b:List Condition),bX a=bX b→a=b
 | [],[],_=>rfl
 | [],_::_,h=>by simp[bX] at h
 | _::_,[],h=>by simp[bX] at h
 | x::xs,y::ys,h=>by
  simp only[bX,List.cons.injEq] at h
  rw[uJ x y h.1,mg xs ys h.2]
end
mutual
theorem np:∀x:Condition,cX (ap x)=ac x
 | ⟨a0,a1,a2,a3⟩=>by simp[ap,ac,cX,d4,str,mf]
theorem mf:∀xs:List Condition,d4 (bX xs)=ci xs
 | []=>by simp[bX,ci,d4]
 | x::xs=>by simp[bX,ci,d4,np x,mf xs]
end
mutual
theorem sW:∀x:Condition,ch (ap x)=false
 | ⟨a0,a1,a2,a3⟩=>by simp[ap,ch,cQ,str,lD]
theorem lD:∀xs:List Condition,cQ (bX xs)=false
 | []=>by simp[bX,cQ]
 | x::xs=>by simp[bX,cQ,sW x,lD xs]
end
structure Clause where
 Id:ah
 Kind:Int
 Party:Int
 Action:ah
 Other:Int
 Amount:Int
 When:Condition
 Within:Int
 Repair:ah
def aa (x:Clause):V:=.agg [str x.Id,I x.Kind,I x.Party,str x.Action,I x.Other,I x.Amount,I x.When.Op,str x.When.Name,I x.When.Day,.isl false (x.When.Parts.map ac),I x.Within,str x.Repair]
theorem cp (a b:Clause)(h:aa a=aa b):a=b:=by
 obtain⟨p0,p1,p2,p3,p4,p5,⟨p6,p7,p8,p9⟩,p10,p11⟩:=a
 obtain⟨q0,q1,q2,q3,q4,q5,⟨q6,q7,q8,q9⟩,q10,q11⟩:=b
 replace h:=V.agg.inj h
 obtain⟨h0,h⟩:=List.cons.inj h
 obtain rfl:=bm p0 q0 h0
 obtain⟨h1,h⟩:=List.cons.inj h
 obtain rfl:=bO p1 q1 h1
 obtain⟨h2,h⟩:=List.cons.inj h
 obtain rfl:=bO p2 q2 h2
 obtain⟨h3,h⟩:=List.cons.inj h
 obtain rfl:=bm p3 q3 h3
 obtain⟨h4,h⟩:=List.cons.inj h
 obtain rfl:=bO p4 q4 h4
 obtain⟨h5,h⟩:=List.cons.inj h
 obtain rfl:=bO p5 q5 h5
 obtain⟨h6,h⟩:=List.cons.inj h
 obtain rfl:=bO p6 q6 h6
 obtain⟨h7,h⟩:=List.cons.inj h
 obtain rfl:=bm p7 q7 h7
 obtain⟨h8,h⟩:=List.cons.inj h
 obtain rfl:=bO p8 q8 h8
 obtain⟨h9,h⟩:=List.cons.inj h
 obtain rfl:=(bw dW) p9 q9 h9
 obtain⟨h10,h⟩:=List.cons.inj h
 obtain rfl:=bO p10 q10 h10
 obtain⟨h11,h⟩:=List.cons.inj h
 obtain rfl:=bm p11 q11 h11
 rfl
def aE (x:Clause):V:=.agg [str x.Id,I x.Kind,I x.Party,str x.Action,I x.Other,I x.Amount,I x.When.Op,str x.When.Name,I x.When.Day,.usl 4 (x.When.Parts.map ap),I x.Within,str x.Repair]
theorem eF (x:Clause):cX (aE x)=aa x:=Xz (iA rfl (iA rfl (iA rfl (iA rfl (iA rfl (iA rfl (iA rfl (iA rfl (iA rfl (iA (Ti (bV np)) (iA rfl (iA rfl rfl))))))))))))
structure Contract where
 Parties:List ah
 Clauses:List Clause
def aG (x:Contract):V:=.agg [.isl false (x.Parties.map str),.isl false (x.Clauses.map aa)]
theorem aQ (a b:Contract)(h:aG a=aG b):a=b:=by
 obtain⟨p0,p1⟩:=a
 obtain⟨q0,q1⟩:=b
 replace h:=V.agg.inj h
 obtain⟨h0,h⟩:=List.cons.inj h
 obtain rfl:=(bw bm) p0 q0 h0
 obtain⟨h1,h⟩:=List.cons.inj h
 obtain rfl:=(bw cp) p1 q1 h1
 rfl
structure Duty where
 Clause:Int
 Since:Int
 Due:Int
 Status:Int
def ae (x:Duty):V:=.agg [I x.Clause,I x.Since,I x.Due,I x.Status]
theorem Eg (x:Duty):(cells (ae x)).length=4∧(cells (ae x)).all dT=true:=⟨rfl,rfl⟩
theorem ga (x:Duty):cX (ae x)=ae x:=rfl
theorem cy (a b:Duty)(h:ae a=ae b):a=b:=by
 obtain⟨p0,p1,p2,p3⟩:=a
 obtain⟨q0,q1,q2,q3⟩:=b
 replace h:=V.agg.inj h
 obtain⟨h0,h⟩:=List.cons.inj h
 obtain rfl:=bO p0 q0 h0
 obtain⟨h1,h⟩:=List.cons.inj h
 obtain rfl:=bO p1 q1 h1
 obtain⟨h2,h⟩:=List.cons.inj h
 obtain rfl:=bO p2 q2 h2
 obtain⟨h3,h⟩:=List.cons.inj h
 obtain rfl:=bO p3 q3 h3
 rfl
structure State where
 Day:Int
 Facts:List ah
 Duties:List Duty
 Balances:List Int
 Over:Bool
def bH (x:State):V:=.agg [I x.Day,.isl false (x.Facts.map str),.isl false (x.Duties.map ae),.isl false (x.Balances.map I),B x.Over]
theorem cS (a b:State)(h:bH a=bH b):a=b:=by
 obtain⟨p0,p1,p2,p3,p4⟩:=a
 obtain⟨q0,q1,q2,q3,q4⟩:=b
 replace h:=V.agg.inj h
 obtain⟨h0,h⟩:=List.cons.inj h
 obtain rfl:=bO p0 q0 h0
 obtain⟨h1,h⟩:=List.cons.inj h
 obtain rfl:=(bw bm) p1 q1 h1
 obtain⟨h2,h⟩:=List.cons.inj h
 obtain rfl:=(bw cy) p2 q2 h2
 obtain⟨h3,h⟩:=List.cons.inj h
 obtain rfl:=(bw bO) p3 q3 h3
 obtain⟨h4,h⟩:=List.cons.inj h
 obtain rfl:=XL p4 q4 h4
 rfl
mutual
def mu:Condition→Prop
 | ⟨a0,a1,a2,a3⟩=>mS a0∧zu a1∧mS a2∧(a3.length≤maxLen∧Gu a3)
def Gu:List Condition→Prop
 | []=>True
 | x::xs=>mu x∧Gu xs
end
theorem HM:∀xs,Gu xs↔∀x∈xs,mu x
 | []=>by simp[Gu]
 | x::xs=>by simp[Gu,HM xs]
theorem H5 (x:Condition):mu x↔mS x.Op∧zu x.Name∧mS x.Day∧pg mu x.Parts:=by cases x;simp only[mu,HM,pg]
def pf (x:Clause):Prop:=zu x.Id∧mS x.Kind∧mS x.Party∧zu x.Action∧mS x.Other∧mS x.Amount∧mu x.When∧mS x.Within∧zu x.Repair
def Rx (x:Contract):Prop:=(pg zu) x.Parties∧(pg pf) x.Clauses
def Ej (x:Duty):Prop:=mS x.Clause∧mS x.Since∧mS x.Due∧mS x.Status
def xL (x:State):Prop:=mS x.Day∧(pg zu) x.Facts∧(pg Ej) x.Duties∧(pg mS) x.Balances∧X8 x.Over
noncomputable def ln (a_1:List ah)(left_2:Int)(self:(Int×Int)→Option (Int⊕Int))(x3:Int×Int):Option (Int⊕Int):=
 bif (decide (x3.2<(len a_1))) then ((aI a_1 x3.2).bind fun e4=>bif (decide ((ar (x3.1 - (len e4)))<0)) then (some (.inl (-1))) else (self ((ar (x3.1 - (len e4))),(ar (x3.2+1))))) else (some (.inr x3.1))
noncomputable def qZ (a_1:List ah)(left_2:Int): (Int×Int)→Option (Int⊕Int):=aJ (ln a_1 left_2)
theorem vB (a_1:List ah)(left_2:Int): ∀a,Fin1 fun f=>ln a_1 left_2 f a:=by
 intro a
 unfold ln
 repeat first|exact aL|exact bn|refine bq ?_ ?_|refine ba ?_ (fun _=>?_)|refine aZ ?_ (fun _=>?_)|refine be ?_ (fun _=>?_)|refine bp (fun _=>?_)
theorem K8 (a_1:List ah)(left_2:Int)(x:Int×Int):qZ a_1 left_2 x=ln a_1 left_2 (qZ a_1 left_2) x:=bx (vB a_1 left_2) x
noncomputable def tF (a_1:List ah)(left_2:Int):Option Int:=
 bif (decide ((ar (left_2 - (len a_1)))<0)) then (some (-1)) else (aV (ρ:=Int) (qZ a_1 left_2 ((ar (left_2 - (len a_1))),0)) fun u5:Int=>some u5)
noncomputable def jl (slf_Ffbo:(Condition×Int)→Option Int)(a_1:List Condition)(left_2:Int)(self:(Int×Int)→Option (Int⊕Int))(x3:Int×Int):Option (Int⊕Int):=
 bif (decide (x3.2<(len a_1))) then ((aI a_1 x3.2).bind fun e4=>(slf_Ffbo (e4,x3.1)).bind fun r5=>bif (decide (r5<0)) then (some (.inl (-1))) else (self (r5,(ar (x3.2+1))))) else (some (.inr x3.1))
noncomputable def nZ (slf_Ffbo:(Condition×Int)→Option Int)(a_1:List Condition)(left_2:Int): (Int×Int)→Option (Int⊕Int):=aJ (jl slf_Ffbo a_1 left_2)
theorem wy (slf_Ffbo:(Condition×Int)→Option Int)(a_1:List Condition)(left_2:Int): ∀a,Fin1 fun f=>jl slf_Ffbo a_1 left_2 f a:=by
 intro a
 unfold jl
 repeat first|exact aL|exact bn|refine bq ?_ ?_|refine ba ?_ (fun _=>?_)|refine aZ ?_ (fun _=>?_)|refine be ?_ (fun _=>?_)|refine bp (fun _=>?_)
theorem K0 (slf_Ffbo:(Condition×Int)→Option Int)(a_1:List Condition)(left_2:Int)(x:Int×Int):nZ slf_Ffbo a_1 left_2 x=jl slf_Ffbo a_1 left_2 (nZ slf_Ffbo a_1 left_2) x:=bx (wy slf_Ffbo a_1 left_2) x
noncomputable def tB (slf_Ffbo:(Condition×Int)→Option Int)(a_1:List Condition)(left_2:Int):Option Int:=
 bif (decide ((ar (left_2 - (len a_1)))<0)) then (some (-1)) else (aV (ρ:=Int) (nZ slf_Ffbo a_1 left_2 ((ar (left_2 - (len a_1))),0)) fun u6:Int=>some u6)
noncomputable def qK (slf_Ffbo:(Condition×Int)→Option Int)(a_1:Condition)(left_2:Int):Option Int:=
 bif (decide ((ar (left_2 - (len a_1.Name)))<0)) then (some (-1)) else ((tB slf_Ffbo a_1.Parts (ar (left_2 - (len a_1.Name)))).bind fun r3=>bif (decide (r3<0)) then (some (-1)) else (some r3))
noncomputable def mY (slf_Ffbo:(Condition×Int)→Option Int)(x:Condition×Int):Option Int:=qK slf_Ffbo x.1 x.2
noncomputable def un (a_1:Condition)(left_2:Int):Option Int:=aJ mY (a_1,left_2)
theorem Sn:∀x,Fin1 fun slf_Ffbo=>mY slf_Ffbo x:=by
 intro x
 unfold mY qK
 repeat first|exact aL|exact bn|exact iR|exact lq|exact gx|exact jk|exact hC|exact hY|refine bq ?_ ?_|refine ba ?_ (fun _=>?_)|refine aZ ?_ (fun _=>?_)|refine be ?_ (fun _=>?_)|refine bp (fun _=>?_)|refine pa (fun _=>?_) | unfold tB | unfold nZ | unfold jl
theorem UL (a_1:Condition)(left_2:Int):un a_1 left_2=qK (aJ mY) a_1 left_2:=bx Sn (a_1,left_2)
noncomputable def ro (a_1:Clause)(left_2:Int):Option Int:=
 bif (decide ((ar (left_2 - (len a_1.Id)))<0)) then (some (-1)) else (bif (decide ((ar ((ar (left_2 - (len a_1.Id))) - (len a_1.Action)))<0)) then (some (-1)) else ((un a_1.When (ar ((ar (left_2 - (len a_1.Id))) - (len a_1.Action)))).bind fun r3=>bif (decide (r3<0)) then (some (-1)) else (bif (decide ((ar (r3 - (len a_1.Repair)))<0)) then (some (-1)) else (some (ar (r3 - (len a_1.Repair)))))))
noncomputable def ls (a_1:List Clause)(left_2:Int)(self:(Int×Int)→Option (Int⊕Int))(x3:Int×Int):Option (Int⊕Int):=
 bif (decide (x3.2<(len a_1))) then ((aI a_1 x3.2).bind fun e4=>(ro e4 x3.1).bind fun r5=>bif (decide (r5<0)) then (some (.inl (-1))) else (self (r5,(ar (x3.2+1))))) else (some (.inr x3.1))
noncomputable def qo (a_1:List Clause)(left_2:Int): (Int×Int)→Option (Int⊕Int):=aJ (ls a_1 left_2)
theorem vV (a_1:List Clause)(left_2:Int): ∀a,Fin1 fun f=>ls a_1 left_2 f a:=by
 intro a
 unfold ls
 repeat first|exact aL|exact bn|refine bq ?_ ?_|refine ba ?_ (fun _=>?_)|refine aZ ?_ (fun _=>?_)|refine be ?_ (fun _=>?_)|refine bp (fun _=>?_)
theorem KX (a_1:List Clause)(left_2:Int)(x:Int×Int):qo a_1 left_2 x=ls a_1 left_2 (qo a_1 left_2) x:=bx (vV a_1 left_2) x
noncomputable def zg (a_1:List Clause)(left_2:Int):Option Int:=
 bif (decide ((ar (left_2 - (len a_1)))<0)) then (some (-1)) else (aV (ρ:=Int) (qo a_1 left_2 ((ar (left_2 - (len a_1))),0)) fun u6:Int=>some u6)
noncomputable def yH (a_1:Contract)(left_2:Int):Option Int:=
 (tF a_1.Parties left_2).bind fun r3=>bif (decide (r3<0)) then (some (-1)) else ((zg a_1.Clauses r3).bind fun r4=>bif (decide (r4<0)) then (some (-1)) else (some r4))
noncomputable def xJ (a_1:List Duty)(left_2:Int):Option Int:=
 bif (decide ((ar (left_2 - (len a_1)))<0)) then (some (-1)) else (some (ar (left_2 - (len a_1))))
noncomputable def ze (a_1:List Int)(left_2:Int):Option Int:=
 bif (decide ((ar (left_2 - (len a_1)))<0)) then (some (-1)) else (some (ar (left_2 - (len a_1))))
noncomputable def wW (a_1:State)(left_2:Int):Option Int:=
 (tF a_1.Facts left_2).bind fun r3=>bif (decide (r3<0)) then (some (-1)) else ((xJ a_1.Duties r3).bind fun r4=>bif (decide (r4<0)) then (some (-1)) else ((ze a_1.Balances r4).bind fun r5=>bif (decide (r5<0)) then (some (-1)) else (some r5)))
noncomputable def kW (a_1:List ah)(self:(Int×(List ah))→Option ((List ah)⊕(List ah)))(x3:Int×(List ah)):Option ((List ah)⊕(List ah)):=
 bif (decide (x3.1<(len a_1))) then ((aI a_1 x3.1).bind fun e4=>(aI x3.2 x3.1).bind fun e5=>self ((ar (x3.1+1)),(ey x3.2 x3.1 e4))) else (some (.inr x3.2))
noncomputable def re (a_1:List ah): (Int×(List ah))→Option ((List ah)⊕(List ah)):=aJ (kW a_1)
theorem vF (a_1:List ah): ∀a,Fin1 fun f=>kW a_1 f a:=by
 intro a
 unfold kW
 repeat first|exact aL|exact bn|refine bq ?_ ?_|refine ba ?_ (fun _=>?_)|refine aZ ?_ (fun _=>?_)|refine be ?_ (fun _=>?_)|refine bp (fun _=>?_)
theorem KR (a_1:List ah)(x:Int×(List ah)):re a_1 x=kW a_1 (re a_1) x:=bx (vF a_1) x
noncomputable def tZ (a_1:List ah):Option (List ah):=
 (o7 16 [] (len a_1)).bind fun m2=>aV (ρ:=(List ah)) (re a_1 (0,m2)) fun u6:(List ah)=>some u6
noncomputable def jp (slf_Ffbx:Condition→Option Condition)(a_1:List Condition)(self:(Int×(List Condition))→Option ((List Condition)⊕(List Condition)))(x3:Int×(List Condition)):Option ((List Condition)⊕(List Condition)):=
 bif (decide (x3.1<(len a_1))) then ((aI a_1 x3.1).bind fun e4=>(slf_Ffbx e4).bind fun r5=>(aI x3.2 x3.1).bind fun e6=>self ((ar (x3.1+1)),(ey x3.2 x3.1 r5))) else (some (.inr x3.2))
noncomputable def nY (slf_Ffbx:Condition→Option Condition)(a_1:List Condition): (Int×(List Condition))→Option ((List Condition)⊕(List Condition)):=aJ (jp slf_Ffbx a_1)
theorem vZ (slf_Ffbx:Condition→Option Condition)(a_1:List Condition): ∀a,Fin1 fun f=>jp slf_Ffbx a_1 f a:=by
 intro a
 unfold jp
 repeat first|exact aL|exact bn|refine bq ?_ ?_|refine ba ?_ (fun _=>?_)|refine aZ ?_ (fun _=>?_)|refine be ?_ (fun _=>?_)|refine bp (fun _=>?_)
theorem KE (slf_Ffbx:Condition→Option Condition)(a_1:List Condition)(x:Int×(List Condition)):nY slf_Ffbx a_1 x=jp slf_Ffbx a_1 (nY slf_Ffbx a_1) x:=bx (vZ slf_Ffbx a_1) x
noncomputable def uC (slf_Ffbx:Condition→Option Condition)(a_1:List Condition):Option (List Condition):=
 (o7 56 (Condition.mk 0 [] 0 []) (len a_1)).bind fun m2=>aV (ρ:=(List Condition)) (nY slf_Ffbx a_1 (0,m2)) fun u7:(List Condition)=>some u7
noncomputable def qj (slf_Ffbx:Condition→Option Condition)(a_1:Condition):Option Condition:=
 (uC slf_Ffbx a_1.Parts).bind fun r2=>some (Condition.mk a_1.Op a_1.Name a_1.Day r2)
noncomputable def mR (slf_Ffbx:Condition→Option Condition)(x:Condition):Option Condition:=qj slf_Ffbx x
noncomputable def yg (a_1:Condition):Option Condition:=aJ mR a_1
theorem Sk:∀x,Fin1 fun slf_Ffbx=>mR slf_Ffbx x:=by
 intro x
 unfold mR qj
 repeat first|exact aL|exact bn|exact iR|exact lq|exact gx|exact jk|exact hC|exact hY|refine bq ?_ ?_|refine ba ?_ (fun _=>?_)|refine aZ ?_ (fun _=>?_)|refine be ?_ (fun _=>?_)|refine bp (fun _=>?_)|refine pa (fun _=>?_) | unfold uC | unfold nY | unfold jp
theorem Tw (a_1:Condition):yg a_1=qj (aJ mR) a_1:=bx Sk a_1
noncomputable def tQ (a_1:Clause):Option Clause:=
 (yg a_1.When).bind fun r2=>some (Clause.mk a_1.Id a_1.Kind a_1.Party a_1.Action a_1.Other a_1.Amount r2 a_1.Within a_1.Repair)
noncomputable def kN (a_1:List Clause)(self:(Int×(List Clause))→Option ((List Clause)⊕(List Clause)))(x3:Int×(List Clause)):Option ((List Clause)⊕(List Clause)):=
 bif (decide (x3.1<(len a_1))) then ((aI a_1 x3.1).bind fun e4=>(tQ e4).bind fun r5=>(aI x3.2 x3.1).bind fun e6=>self ((ar (x3.1+1)),(ey x3.2 x3.1 r5))) else (some (.inr x3.2))
noncomputable def qD (a_1:List Clause): (Int×(List Clause))→Option ((List Clause)⊕(List Clause)):=aJ (kN a_1)
theorem wl (a_1:List Clause): ∀a,Fin1 fun f=>kN a_1 f a:=by
 intro a
 unfold kN
 repeat first|exact aL|exact bn|refine bq ?_ ?_|refine ba ?_ (fun _=>?_)|refine aZ ?_ (fun _=>?_)|refine be ?_ (fun _=>?_)|refine bp (fun _=>?_)
theorem LS (a_1:List Clause)(x:Int×(List Clause)):qD a_1 x=kN a_1 (qD a_1) x:=bx (wl a_1) x
noncomputable def xe (a_1:List Clause):Option (List Clause):=
 (o7 144 (Clause.mk [] 0 0 [] 0 0 (Condition.mk 0 [] 0 []) 0 []) (len a_1)).bind fun m2=>aV (ρ:=(List Clause)) (qD a_1 (0,m2)) fun u7:(List Clause)=>some u7
noncomputable def sk (a_1:Contract):Option Contract:=
 (tZ a_1.Parties).bind fun r2=>(xe a_1.Clauses).bind fun r3=>some (Contract.mk r2 r3)
noncomputable def uO (a_1:Duty):Option Duty:=
 some a_1
noncomputable def lh (a_1:List Duty)(self:(Int×(List Duty))→Option ((List Duty)⊕(List Duty)))(x3:Int×(List Duty)):Option ((List Duty)⊕(List Duty)):=
 bif (decide (x3.1<(len a_1))) then ((aI a_1 x3.1).bind fun e4=>(uO e4).bind fun r5=>(aI x3.2 x3.1).bind fun e6=>self ((ar (x3.1+1)),(ey x3.2 x3.1 r5))) else (some (.inr x3.2))
noncomputable def pZ (a_1:List Duty): (Int×(List Duty))→Option ((List Duty)⊕(List Duty)):=aJ (lh a_1)
theorem wF (a_1:List Duty): ∀a,Fin1 fun f=>lh a_1 f a:=by
 intro a
 unfold lh
 repeat first|exact aL|exact bn|refine bq ?_ ?_|refine ba ?_ (fun _=>?_)|refine aZ ?_ (fun _=>?_)|refine be ?_ (fun _=>?_)|refine bp (fun _=>?_)
theorem KO (a_1:List Duty)(x:Int×(List Duty)):pZ a_1 x=lh a_1 (pZ a_1) x:=bx (wF a_1) x
noncomputable def yy (a_1:List Duty):Option (List Duty):=
 (o7 32 (Duty.mk 0 0 0 0) (len a_1)).bind fun m2=>aV (ρ:=(List Duty)) (pZ a_1 (0,m2)) fun u7:(List Duty)=>some u7
noncomputable def lB (a_1:List Int)(self:(Int×(List Int))→Option ((List Int)⊕(List Int)))(x3:Int×(List Int)):Option ((List Int)⊕(List Int)):=
 bif (decide (x3.1<(len a_1))) then ((aI a_1 x3.1).bind fun e4=>(aI x3.2 x3.1).bind fun e5=>self ((ar (x3.1+1)),(ey x3.2 x3.1 e4))) else (some (.inr x3.2))
noncomputable def qa (a_1:List Int): (Int×(List Int))→Option ((List Int)⊕(List Int)):=aJ (lB a_1)
theorem wt (a_1:List Int): ∀a,Fin1 fun f=>lB a_1 f a:=by
 intro a
 unfold lB
 repeat first|exact aL|exact bn|refine bq ?_ ?_|refine ba ?_ (fun _=>?_)|refine aZ ?_ (fun _=>?_)|refine be ?_ (fun _=>?_)|refine bp (fun _=>?_)
theorem LL (a_1:List Int)(x:Int×(List Int)):qa a_1 x=lB a_1 (qa a_1) x:=bx (wt a_1) x
noncomputable def xV (a_1:List Int):Option (List Int):=
 (o7 8 0 (len a_1)).bind fun m2=>aV (ρ:=(List Int)) (qa a_1 (0,m2)) fun u6:(List Int)=>some u6
noncomputable def sf (a_1:State):Option State:=
 (tZ a_1.Facts).bind fun r2=>(yy a_1.Duties).bind fun r3=>(xV a_1.Balances).bind fun r4=>some (State.mk a_1.Day r2 r3 r4 a_1.Over)
noncomputable def cW (x_1:Int)(a_2:Int)(b_3:Int):Option Bool:=
 b6 (bif (decide (x_1≥a_2)) then (decide (x_1≤b_3)) else false) fun u4:Bool=>some u4
noncomputable def uk (b_1:Int):Option Bool:=
 b6 (bif (decide (b_1≥97)) then (b6 (bif (decide (b_1≤122)) then true else (b6 (bif (decide (b_1≥48)) then (decide (b_1≤57)) else false) fun u4:Bool=>u4)) fun u3:Bool=>u3) else (b6 (bif (decide (b_1≥48)) then (decide (b_1≤57)) else false) fun u5:Bool=>u5)) fun u2:Bool=>some u2
noncomputable def kY (s_1:ah)(self:Int→Option (Bool⊕Unit))(x4:Int):Option (Bool⊕Unit):=
 bif (decide (x4<(len s_1))) then ((aI s_1 x4).bind fun c5=>(uk (c5.toNat:Int)).bind fun r6=>bif (!r6) then (some (.inl false)) else (self (ar (x4+1)))) else (some (.inr ()))
noncomputable def rk (s_1:ah): Int→Option (Bool⊕Unit):=aJ (kY s_1)
theorem wC (s_1:ah): ∀a,Fin1 fun f=>kY s_1 f a:=by
 intro a
 unfold kY
 repeat first|exact aL|exact bn|refine bq ?_ ?_|refine ba ?_ (fun _=>?_)|refine aZ ?_ (fun _=>?_)|refine be ?_ (fun _=>?_)|refine bp (fun _=>?_)
theorem KN (s_1:ah)(x:Int):rk s_1 x=kY s_1 (rk s_1) x:=bx (wC s_1) x
noncomputable def oW (s_1:ah):Option Bool:=
 (cW (len s_1) 1 8).bind fun r2=>aV (ρ:=Bool) (bif (!r2) then (some (.inr true)) else ((aI s_1 0).bind fun c16=>bI (ρ:=Bool) (bif (decide ((c16.toNat:Int)<97)) then (some (.inr true)) else ((aI s_1 0).bind fun c18=>some (.inr (decide ((c18.toNat:Int)>122))))) fun u17:Bool=>some (.inr u17))) fun u3:Bool=>bif u3 then (some false) else (aV (ρ:=Bool) (rk s_1 0) fun u7:Unit=>b6 (bif (s_1==([116,114,117,101]:ah)) then (s_1==([116,114,117,101]:ah)) else (b6 (bif (s_1==([102,114,111,109]:ah)) then (s_1==([102,114,111,109]:ah)) else (b6 (bif (s_1==([110,111,116]:ah)) then (s_1==([110,111,116]:ah)) else (b6 (bif (s_1==([97,110,100]:ah)) then (s_1==([97,110,100]:ah)) else (b6 (bif (s_1==([111,114]:ah)) then (s_1==([111,114]:ah)) else (b6 (bif (s_1==([98,111,116,104]:ah)) then (s_1==([98,111,116,104]:ah)) else (b6 (bif (s_1==([101,105,116,104,101,114]:ah)) then (s_1==([101,105,116,104,101,114]:ah)) else (b6 (bif (s_1==([105,116]:ah)) then (s_1==([105,116]:ah)) else (s_1==([105,110]:ah))) fun u15:Bool=>u15)) fun u14:Bool=>u14)) fun u13:Bool=>u13)) fun u12:Bool=>u12)) fun u11:Bool=>u11)) fun u10:Bool=>u10)) fun u9:Bool=>u9)) fun u8:Bool=>bif u8 then (some false) else (some true))
noncomputable def la (list_1:List ah)(name_2:ah)(self:Int→Option (Bool⊕Unit))(x3:Int):Option (Bool⊕Unit):=
 bif (decide (x3<(len list_1))) then ((aI list_1 x3).bind fun e4=>bif (e4==name_2) then (some (.inl true)) else (self (ar (x3+1)))) else (some (.inr ()))
noncomputable def qw (list_1:List ah)(name_2:ah): Int→Option (Bool⊕Unit):=aJ (la list_1 name_2)
theorem vA (list_1:List ah)(name_2:ah): ∀a,Fin1 fun f=>la list_1 name_2 f a:=by
 intro a
 unfold la
 repeat first|exact aL|exact bn|refine bq ?_ ?_|refine ba ?_ (fun _=>?_)|refine aZ ?_ (fun _=>?_)|refine be ?_ (fun _=>?_)|refine bp (fun _=>?_)
theorem KS (list_1:List ah)(name_2:ah)(x:Int):qw list_1 name_2 x=la list_1 name_2 (qw list_1 name_2) x:=bx (vA list_1 name_2) x
noncomputable def sd (list_1:List ah)(name_2:ah):Option Bool:=
 aV (ρ:=Bool) (qw list_1 name_2 0) fun u5:Unit=>some false
noncomputable def jq (c_1:Contract)(self:Int→Option (Bool⊕Unit))(x2:Int):Option (Bool⊕Unit):=
 bif (decide (x2<(len c_1.Parties))) then ((aI c_1.Parties x2).bind fun e3=>(oW e3).bind fun r4=>bI (ρ:=Bool) (bif (!r4) then (some (.inr true)) else ((nz c_1.Parties 0 x2).bind fun s6=>(aI c_1.Parties x2).bind fun e7=>(sd s6 e7).bind fun r8=>some (.inr r8))) fun u5:Bool=>bif u5 then (some (.inl false)) else (self (ar (x2+1)))) else (some (.inr ()))
noncomputable def qn (c_1:Contract): Int→Option (Bool⊕Unit):=aJ (jq c_1)
theorem wg (c_1:Contract): ∀a,Fin1 fun f=>jq c_1 f a:=by
 intro a
 unfold jq
 repeat first|exact aL|exact bn|refine bq ?_ ?_|refine ba ?_ (fun _=>?_)|refine aZ ?_ (fun _=>?_)|refine be ?_ (fun _=>?_)|refine bp (fun _=>?_)
theorem Cj (c_1:Contract)(x:Int):qn c_1 x=jq c_1 (qn c_1) x:=bx (wg c_1) x
noncomputable def uu (c_1:Contract):Option Bool:=
 aV (ρ:=Bool) (qn c_1 0) fun u9:Unit=>(cW (len c_1.Parties) 2 4).bind fun r10=>some r10
noncomputable def ly (c_1:Contract)(id_2:ah)(self:Int→Option (Int⊕Unit))(x3:Int):Option (Int⊕Unit):=
 bif (decide (x3<(len c_1.Clauses))) then ((aI c_1.Clauses x3).bind fun e4=>bif (e4.Id==id_2) then (some (.inl x3)) else (self (ar (x3+1)))) else (some (.inr ()))
noncomputable def qz (c_1:Contract)(id_2:ah): Int→Option (Int⊕Unit):=aJ (ly c_1 id_2)
theorem vx (c_1:Contract)(id_2:ah): ∀a,Fin1 fun f=>ly c_1 id_2 f a:=by
 intro a
 unfold ly
 repeat first|exact aL|exact bn|refine bq ?_ ?_|refine ba ?_ (fun _=>?_)|refine aZ ?_ (fun _=>?_)|refine be ?_ (fun _=>?_)|refine bp (fun _=>?_)
theorem La (c_1:Contract)(id_2:ah)(x:Int):qz c_1 id_2 x=ly c_1 id_2 (qz c_1 id_2) x:=bx (vx c_1 id_2) x
noncomputable def sA (c_1:Contract)(id_2:ah):Option Int:=
 aV (ρ:=Int) (qz c_1 id_2 0) fun u5:Unit=>some (-1)
noncomputable def oM (day_1:Int):Option Bool:=
 (cW day_1 0 36524).bind fun r2=>some r2
noncomputable def wV (c_1:Condition):Option Bool:=
 bif (c_1.Op==1) then (b6 (bif ((len c_1.Parts)==0) then (b6 (bif (c_1.Name==([]:ah)) then (c_1.Day==0) else false) fun u3:Bool=>u3) else false) fun u2:Bool=>some u2) else (bif (c_1.Op==2) then (aV (ρ:=Bool) (bif ((len c_1.Parts)==0) then ((oW c_1.Name).bind fun r5=>b6 (bif r5 then (c_1.Day==0) else false) fun u6:Bool=>some (.inr u6)) else (some (.inr false))) fun u4:Bool=>some u4) else (bif (c_1.Op==3) then (aV (ρ:=Bool) (bif ((len c_1.Parts)==0) then (bI (ρ:=Bool) (bif (c_1.Name==([]:ah)) then ((oM c_1.Day).bind fun r9=>some (.inr r9)) else (some (.inr false))) fun u8:Bool=>some (.inr u8)) else (some (.inr false))) fun u7:Bool=>some u7) else (bif (c_1.Op==4) then (b6 (bif ((len c_1.Parts)==1) then (b6 (bif (c_1.Name==([]:ah)) then (c_1.Day==0) else false) fun u11:Bool=>u11) else false) fun u10:Bool=>some u10) else (b6 (bif (c_1.Op==5) then (c_1.Op==5) else (c_1.Op==6)) fun u12:Bool=>bif u12 then (b6 (bif ((len c_1.Parts)==2) then (b6 (bif (c_1.Name==([]:ah)) then (c_1.Day==0) else false) fun u14:Bool=>u14) else false) fun u13:Bool=>some u13) else (some false)))))
noncomputable def jG (slf_Ffdc:Condition→Option Bool)(c_1:Condition)(self:Int→Option (Bool⊕Unit))(x3:Int):Option (Bool⊕Unit):=
 bif (decide (x3<(len c_1.Parts))) then ((aI c_1.Parts x3).bind fun e4=>(slf_Ffdc e4).bind fun r5=>bif (!r5) then (some (.inl false)) else (self (ar (x3+1)))) else (some (.inr ()))
noncomputable def nX (slf_Ffdc:Condition→Option Bool)(c_1:Condition): Int→Option (Bool⊕Unit):=aJ (jG slf_Ffdc c_1)
theorem vX (slf_Ffdc:Condition→Option Bool)(c_1:Condition): ∀a,Fin1 fun f=>jG slf_Ffdc c_1 f a:=by
 intro a
 unfold jG
 repeat first|exact aL|exact bn|refine bq ?_ ?_|refine ba ?_ (fun _=>?_)|refine aZ ?_ (fun _=>?_)|refine be ?_ (fun _=>?_)|refine bp (fun _=>?_)
theorem KV (slf_Ffdc:Condition→Option Bool)(c_1:Condition)(x:Int):nX slf_Ffdc c_1 x=jG slf_Ffdc c_1 (nX slf_Ffdc c_1) x:=bx (vX slf_Ffdc c_1) x
noncomputable def ql (slf_Ffdc:Condition→Option Bool)(c_1:Condition):Option Bool:=
 (wV c_1).bind fun r2=>bif (!r2) then (some false) else (aV (ρ:=Bool) (nX slf_Ffdc c_1 0) fun u6:Unit=>some true)
noncomputable def ox (slf_Ffdc:Condition→Option Bool)(x:Condition):Option Bool:=ql slf_Ffdc x
noncomputable def Ee (c_1:Condition):Option Bool:=aJ ox c_1
theorem RA:∀x,Fin1 fun slf_Ffdc=>ox slf_Ffdc x:=by
 intro x
 unfold ox ql
 repeat first|exact aL|exact bn|exact iR|exact lq|exact gx|exact jk|exact hC|exact hY|refine bq ?_ ?_|refine ba ?_ (fun _=>?_)|refine aZ ?_ (fun _=>?_)|refine be ?_ (fun _=>?_)|refine bp (fun _=>?_)|refine pa (fun _=>?_) | unfold nX | unfold jG
theorem TQ (c_1:Condition):Ee c_1=ql (aJ ox) c_1:=bx RA c_1
noncomputable def hI (slf_Ffdj:Condition→Option Int)(c_1:Condition)(self:(Int×Int)→Option (Int⊕Int))(x2:Int×Int):Option (Int⊕Int):=
 bif (decide (x2.2<(len c_1.Parts))) then ((aI c_1.Parts x2.2).bind fun e3=>(slf_Ffdj e3).bind fun r4=>self ((ar (x2.1+r4)),(ar (x2.2+1)))) else (some (.inr x2.1))
noncomputable def jP (slf_Ffdj:Condition→Option Int)(c_1:Condition): (Int×Int)→Option (Int⊕Int):=aJ (hI slf_Ffdj c_1)
theorem wv (slf_Ffdj:Condition→Option Int)(c_1:Condition): ∀a,Fin1 fun f=>hI slf_Ffdj c_1 f a:=by
 intro a
 unfold hI
 repeat first|exact aL|exact bn|refine bq ?_ ?_|refine ba ?_ (fun _=>?_)|refine aZ ?_ (fun _=>?_)|refine be ?_ (fun _=>?_)|refine bp (fun _=>?_)
theorem Cd (slf_Ffdj:Condition→Option Int)(c_1:Condition)(x:Int×Int):jP slf_Ffdj c_1 x=hI slf_Ffdj c_1 (jP slf_Ffdj c_1) x:=bx (wv slf_Ffdj c_1) x
noncomputable def qF (slf_Ffdj:Condition→Option Int)(c_1:Condition):Option Int:=
 aV (ρ:=Int) (jP slf_Ffdj c_1 (1,0)) fun u5:Int=>some u5
noncomputable def jH (slf_Ffdj:Condition→Option Int)(x:Condition):Option Int:=qF slf_Ffdj x
noncomputable def GC (c_1:Condition):Option Int:=aJ jH c_1
theorem SG:∀x,Fin1 fun slf_Ffdj=>jH slf_Ffdj x:=by
 intro x
 unfold jH qF
 repeat first|exact aL|exact bn|exact iR|exact lq|exact gx|exact jk|exact hC|exact hY|refine bq ?_ ?_|refine ba ?_ (fun _=>?_)|refine aZ ?_ (fun _=>?_)|refine be ?_ (fun _=>?_)|refine bp (fun _=>?_)|refine pa (fun _=>?_) | unfold jP | unfold hI
theorem Tq (c_1:Condition):GC c_1=qF (aJ jH) c_1:=bx SG c_1
noncomputable def xF (c_1:Condition):Option Bool:=
 (Ee c_1).bind fun r2=>aV (ρ:=Bool) (bif r2 then ((GC c_1).bind fun r4=>some (.inr (decide (r4≤15)))) else (some (.inr false))) fun u3:Bool=>some u3
noncomputable def xG (c_1:Contract)(i_2:Int):Option Bool:=
 (aI c_1.Clauses i_2).bind fun e3=>(oW e3.Id).bind fun r4=>aV (ρ:=Bool) (bif (!r4) then (some (.inr true)) else ((oW e3.Action).bind fun r17=>bI (ρ:=Bool) (bif (!r17) then (some (.inr true)) else ((cW e3.Kind 1 4).bind fun r19=>bI (ρ:=Bool) (bif (!r19) then (some (.inr true)) else ((cW e3.Party 0 (ar ((len c_1.Parties) - 1))).bind fun r21=>bI (ρ:=Bool) (bif (!r21) then (some (.inr true)) else ((cW e3.Other 0 (ar ((len c_1.Parties) - 1))).bind fun r23=>bI (ρ:=Bool) (bif (!r23) then (some (.inr true)) else (bI (ρ:=Bool) (bif (e3.Party==e3.Other) then (some (.inr true)) else ((xF e3.When).bind fun r26=>some (.inr (!r26)))) fun u25:Bool=>some (.inr u25))) fun u24:Bool=>some (.inr u24))) fun u22:Bool=>some (.inr u22))) fun u20:Bool=>some (.inr u20))) fun u18:Bool=>some (.inr u18))) fun u5:Bool=>bif u5 then (some false) else ((cW e3.Amount 0 1000000).bind fun r6=>aV (ρ:=Bool) (bif (!r6) then (some (.inr true)) else ((cW e3.Within 0 400).bind fun r13=>b6 (bif (!r13) then true else (b6 (bif (e3.Kind != 1) then (b6 (bif (e3.Amount != 0) then true else (e3.Within != 0)) fun u16:Bool=>u16) else false) fun u15:Bool=>u15)) fun u14:Bool=>some (.inr u14))) fun u7:Bool=>bif u7 then (some false) else (bif (e3.Repair==([]:ah)) then (some true) else ((sA c_1 e3.Repair).bind fun r8=>aV (ρ:=Bool) (bif (decide (r8≥0)) then (bI (ρ:=Bool) (bif (r8 != i_2) then ((aI c_1.Clauses r8).bind fun e11=>b6 (bif (e11.Kind==1) then (e3.Kind != 3) else false) fun u12:Bool=>some (.inr u12)) else (some (.inr false))) fun u10:Bool=>some (.inr u10)) else (some (.inr false))) fun u9:Bool=>some u9)))
noncomputable def jo (l_8:List ah)(s_9:ah)(self:Int→Option ((List ah)⊕(ah×Int×(List ah))))(x3:Int):Option ((List ah)⊕(ah×Int×(List ah))):=
 bI (ρ:=(List ah)) (bif (decide (x3<(len l_8))) then ((aI l_8 x3).bind fun e5=>some (.inr (Op.bytesLess e5 s_9))) else (some (.inr false))) fun u4:Bool=>bif u4 then (self (ar (x3+1))) else (some (.inr (s_9,x3,l_8)))
noncomputable def qM (l_8:List ah)(s_9:ah): Int→Option ((List ah)⊕(ah×Int×(List ah))):=aJ (jo l_8 s_9)
theorem vU (l_8:List ah)(s_9:ah): ∀a,Fin1 fun f=>jo l_8 s_9 f a:=by
 intro a
 unfold jo
 repeat first|exact aL|exact bn|refine bq ?_ ?_|refine ba ?_ (fun _=>?_)|refine aZ ?_ (fun _=>?_)|refine be ?_ (fun _=>?_)|refine bp (fun _=>?_)
theorem Dk (l_8:List ah)(s_9:ah)(x:Int):qM l_8 s_9 x=jo l_8 s_9 (qM l_8 s_9) x:=bx (vU l_8 s_9) x
noncomputable def uI (l_8:List ah)(s_9:ah):Option (List ah):=
 aV (ρ:=(List ah)) (qM l_8 s_9 0) fun u6:ah×Int×(List ah)=>aV (ρ:=(List ah)) (bif (decide (u6.2.1<(len u6.2.2))) then ((aI u6.2.2 u6.2.1).bind fun e15=>some (.inr (e15==u6.1))) else (some (.inr false))) fun u7:Bool=>bif u7 then (some u6.2.2) else ((gC u6.2.2.length 0 u6.2.1).bind fun s8=>(gI u6.2.2 (0+Int.toNat (0)) (Int.toNat u6.2.1 - Int.toNat (0))).bind fun p9=>(kx 16 ([]:List ah) p9).bind fun a10=>(kx 16 a10 [u6.1]).bind fun a11=>(gC u6.2.2.length u6.2.1 (len u6.2.2)).bind fun s12=>(gI u6.2.2 (0+Int.toNat u6.2.1) (Int.toNat (len u6.2.2) - Int.toNat u6.2.1)).bind fun p13=>(kx 16 a11 p13).bind fun a14=>some a14)
noncomputable def ia (slf_Ffdg:((List ah)×Condition)→Option (List ah))(l_4:List ah)(c_5:Condition)(self:(Int×(List ah))→Option ((List ah)⊕(List ah)))(x4:Int×(List ah)):Option ((List ah)⊕(List ah)):=
 bif (decide (x4.1<(len c_5.Parts))) then ((aI c_5.Parts x4.1).bind fun e5=>(slf_Ffdg (x4.2,e5)).bind fun r6=>self ((ar (x4.1+1)),r6)) else (some (.inr x4.2))
noncomputable def jW (slf_Ffdg:((List ah)×Condition)→Option (List ah))(l_4:List ah)(c_5:Condition): (Int×(List ah))→Option ((List ah)⊕(List ah)):=aJ (ia slf_Ffdg l_4 c_5)
theorem we (slf_Ffdg:((List ah)×Condition)→Option (List ah))(l_4:List ah)(c_5:Condition): ∀a,Fin1 fun f=>ia slf_Ffdg l_4 c_5 f a:=by
 intro a
 unfold ia
 repeat first|exact aL|exact bn|refine bq ?_ ?_|refine ba ?_ (fun _=>?_)|refine aZ ?_ (fun _=>?_)|refine be ?_ (fun _=>?_)|refine bp (fun _=>?_)
theorem B0 (slf_Ffdg:((List ah)×Condition)→Option (List ah))(l_4:List ah)(c_5:Condition)(x:Int×(List ah)):jW slf_Ffdg l_4 c_5 x=ia slf_Ffdg l_4 c_5 (jW slf_Ffdg l_4 c_5) x:=bx (we slf_Ffdg l_4 c_5) x
noncomputable def qR (slf_Ffdg:((List ah)×Condition)→Option (List ah))(l_4:List ah)(c_5:Condition):Option (List ah):=
 bif (c_5.Op==2) then ((uI l_4 c_5.Name).bind fun r3=>some r3) else (aV (ρ:=(List ah)) (jW slf_Ffdg l_4 c_5 (0,l_4)) fun u7:(List ah)=>some u7)
noncomputable def ji (slf_Ffdg:((List ah)×Condition)→Option (List ah))(x:(List ah)×Condition):Option (List ah):=qR slf_Ffdg x.1 x.2
noncomputable def Iy (l_4:List ah)(c_5:Condition):Option (List ah):=aJ ji (l_4,c_5)
theorem RJ:∀x,Fin1 fun slf_Ffdg=>ji slf_Ffdg x:=by
 intro x
 unfold ji qR
 repeat first|exact aL|exact bn|exact iR|exact lq|exact gx|exact jk|exact hC|exact hY|refine bq ?_ ?_|refine ba ?_ (fun _=>?_)|refine aZ ?_ (fun _=>?_)|refine be ?_ (fun _=>?_)|refine bp (fun _=>?_)|refine pa (fun _=>?_) | unfold jW | unfold ia
theorem Uw (l_4:List ah)(c_5:Condition):Iy l_4 c_5=qR (aJ ji) l_4 c_5:=bx RJ (l_4,c_5)
noncomputable def jv (c_1:Contract)(self:(Int×(List ah))→Option ((List ah)⊕(List ah)))(x2:Int×(List ah)):Option ((List ah)⊕(List ah)):=
 bif (decide (x2.1<(len c_1.Clauses))) then ((aI c_1.Clauses x2.1).bind fun e3=>(uI x2.2 e3.Action).bind fun r4=>(aI c_1.Clauses x2.1).bind fun e5=>(Iy r4 e5.When).bind fun r6=>self ((ar (x2.1+1)),r6)) else (some (.inr x2.2))
noncomputable def kX (c_1:Contract): (Int×(List ah))→Option ((List ah)⊕(List ah)):=aJ (jv c_1)
theorem vC (c_1:Contract): ∀a,Fin1 fun f=>jv c_1 f a:=by
 intro a
 unfold jv
 repeat first|exact aL|exact bn|refine bq ?_ ?_|refine ba ?_ (fun _=>?_)|refine aZ ?_ (fun _=>?_)|refine be ?_ (fun _=>?_)|refine bp (fun _=>?_)
theorem zL (c_1:Contract)(x:Int×(List ah)):kX c_1 x=jv c_1 (kX c_1) x:=bx (vC c_1) x
noncomputable def nu (c_1:Contract):Option (List ah):=
 aV (ρ:=(List ah)) (kX c_1 (0,[])) fun u7:(List ah)=>some u7
noncomputable def jm (c_1:Contract)(self:Int→Option (Bool⊕Unit))(x4:Int):Option (Bool⊕Unit):=
 bif (decide (x4<(len c_1.Clauses))) then ((aI c_1.Clauses x4).bind fun e5=>(sA c_1 e5.Id).bind fun r6=>bI (ρ:=Bool) (bif (r6 != x4) then (some (.inr true)) else ((xG c_1 x4).bind fun r8=>some (.inr (!r8)))) fun u7:Bool=>bif u7 then (some (.inl false)) else (self (ar (x4+1)))) else (some (.inr ()))
noncomputable def jT (c_1:Contract): Int→Option (Bool⊕Unit):=aJ (jm c_1)
theorem vE (c_1:Contract): ∀a,Fin1 fun f=>jm c_1 f a:=by
 intro a
 unfold jm
 repeat first|exact aL|exact bn|refine bq ?_ ?_|refine ba ?_ (fun _=>?_)|refine aZ ?_ (fun _=>?_)|refine be ?_ (fun _=>?_)|refine bp (fun _=>?_)
theorem C3 (c_1:Contract)(x:Int):jT c_1 x=jm c_1 (jT c_1) x:=bx (vE c_1) x
noncomputable def yu (c_1:Contract):Option Bool:=
 (cW (len c_1.Clauses) 1 12).bind fun r2=>aV (ρ:=Bool) (bif (!r2) then (some (.inr true)) else ((uu c_1).bind fun r11=>some (.inr (!r11)))) fun u3:Bool=>bif u3 then (some false) else (aV (ρ:=Bool) (jT c_1 0) fun u9:Unit=>(nu c_1).bind fun r10=>some (decide ((len r10)≤16)))
noncomputable def gZ (list_1:List ah)(self:Int→Option (Bool⊕Unit))(x2:Int):Option (Bool⊕Unit):=
 b6 (bif (decide (x2<(len list_1))) then (decide (x2≤16)) else false) fun u3:Bool=>bif u3 then ((aI list_1 x2).bind fun e4=>(oW e4).bind fun r5=>bI (ρ:=Bool) (bif (!r5) then (some (.inr true)) else (bI (ρ:=Bool) (bif (decide (x2>0)) then ((aI list_1 (ar (x2 - 1))).bind fun e8=>(aI list_1 x2).bind fun e9=>some (.inr (!(Op.bytesLess e8 e9)))) else (some (.inr false))) fun u7:Bool=>some (.inr u7))) fun u6:Bool=>bif u6 then (some (.inl false)) else (self (ar (x2+1)))) else (some (.inr ()))
noncomputable def gh (list_1:List ah): Int→Option (Bool⊕Unit):=aJ (gZ list_1)
theorem wj (list_1:List ah): ∀a,Fin1 fun f=>gZ list_1 f a:=by
 intro a
 unfold gZ
 repeat first|exact aL|exact bn|refine bq ?_ ?_|refine ba ?_ (fun _=>?_)|refine aZ ?_ (fun _=>?_)|refine be ?_ (fun _=>?_)|refine bp (fun _=>?_)
theorem sb (list_1:List ah)(x:Int):gh list_1 x=gZ list_1 (gh list_1) x:=bx (wj list_1) x
noncomputable def yk (list_1:List ah):Option Bool:=
 aV (ρ:=Bool) (gh list_1 0) fun u10:Unit=>some (decide ((len list_1)≤16))
noncomputable def kM (c_1:Contract)(i_2:Int)(self:Int→Option (Bool⊕Unit))(x3:Int):Option (Bool⊕Unit):=
 bif (decide (x3<(len c_1.Clauses))) then ((aI c_1.Clauses x3).bind fun e4=>(aI c_1.Clauses i_2).bind fun e5=>bif (e4.Repair==e5.Id) then (some (.inl true)) else (self (ar (x3+1)))) else (some (.inr ()))
noncomputable def pY (c_1:Contract)(i_2:Int): Int→Option (Bool⊕Unit):=aJ (kM c_1 i_2)
theorem wa (c_1:Contract)(i_2:Int): ∀a,Fin1 fun f=>kM c_1 i_2 f a:=by
 intro a
 unfold kM
 repeat first|exact aL|exact bn|refine bq ?_ ?_|refine ba ?_ (fun _=>?_)|refine aZ ?_ (fun _=>?_)|refine be ?_ (fun _=>?_)|refine bp (fun _=>?_)
theorem KP (c_1:Contract)(i_2:Int)(x:Int):pY c_1 i_2 x=kM c_1 i_2 (pY c_1 i_2) x:=bx (wa c_1 i_2) x
noncomputable def xD (c_1:Contract)(i_2:Int):Option Bool:=
 aV (ρ:=Bool) (pY c_1 i_2 0) fun u6:Unit=>some false
noncomputable def jd (s_1:State)(i_2:Int)(self:(Int×Int)→Option (Int⊕Int))(x3:Int×Int):Option (Int⊕Int):=
 bif (decide (x3.2<(len s_1.Duties))) then ((aI s_1.Duties x3.2).bind fun e4=>b6 (bif (e4.Clause==i_2) then (ar (x3.1+1)) else x3.1) fun u5:Int=>self (u5,(ar (x3.2+1)))) else (some (.inr x3.1))
noncomputable def jX (s_1:State)(i_2:Int): (Int×Int)→Option (Int⊕Int):=aJ (jd s_1 i_2)
theorem wr (s_1:State)(i_2:Int): ∀a,Fin1 fun f=>jd s_1 i_2 f a:=by
 intro a
 unfold jd
 repeat first|exact aL|exact bn|refine bq ?_ ?_|refine ba ?_ (fun _=>?_)|refine aZ ?_ (fun _=>?_)|refine be ?_ (fun _=>?_)|refine bp (fun _=>?_)
theorem Dr (s_1:State)(i_2:Int)(x:Int×Int):jX s_1 i_2 x=jd s_1 i_2 (jX s_1 i_2) x:=bx (wr s_1 i_2) x
noncomputable def yI (s_1:State)(i_2:Int):Option Int:=
 aV (ρ:=Int) (jX s_1 i_2 (0,0)) fun u6:Int=>some u6
noncomputable def xb (c_1:Contract)(s_2:State)(k_3:Int):Option Bool:=
 (aI s_2.Duties k_3).bind fun e4=>(cW e4.Clause 0 (ar ((len c_1.Clauses) - 1))).bind fun r5=>aV (ρ:=Bool) (bif (!r5) then (some (.inr true)) else ((aI c_1.Clauses e4.Clause).bind fun e35=>bI (ρ:=Bool) (bif (e35.Kind != 1) then (some (.inr true)) else ((cW e4.Since 0 s_2.Day).bind fun r37=>bI (ρ:=Bool) (bif (!r37) then (some (.inr true)) else ((aI c_1.Clauses e4.Clause).bind fun e39=>bI (ρ:=Bool) (bif (e4.Due != (ar (e4.Since+e39.Within))) then (some (.inr true)) else ((oM e4.Due).bind fun r41=>bI (ρ:=Bool) (bif (!r41) then (some (.inr true)) else ((cW e4.Status 1 4).bind fun r43=>some (.inr (!r43)))) fun u42:Bool=>some (.inr u42))) fun u40:Bool=>some (.inr u40))) fun u38:Bool=>some (.inr u38))) fun u36:Bool=>some (.inr u36))) fun u6:Bool=>bif u6 then (some false) else (aV (ρ:=Bool) (bif (decide (k_3>0)) then ((aI s_2.Duties (ar (k_3 - 1))).bind fun e11=>b6 (bif (decide (e11.Since>e4.Since)) then true else (b6 (bif (e4.Status==1) then (b6 (bif (decide (e4.Due<s_2.Day)) then true else (b6 (bif s_2.Over then true else (b6 (bif (e4.Status==3) then (b6 (bif (decide (e4.Due≥s_2.Day)) then true else (b6 (bif (e4.Status==4) then (!s_2.Over) else false) fun u18:Bool=>u18)) fun u17:Bool=>u17) else (b6 (bif (e4.Status==4) then (!s_2.Over) else false) fun u19:Bool=>u19)) fun u16:Bool=>u16)) fun u15:Bool=>u15)) fun u14:Bool=>u14) else (b6 (bif (e4.Status==3) then (b6 (bif (decide (e4.Due≥s_2.Day)) then true else (b6 (bif (e4.Status==4) then (!s_2.Over) else false) fun u22:Bool=>u22)) fun u21:Bool=>u21) else (b6 (bif (e4.Status==4) then (!s_2.Over) else false) fun u23:Bool=>u23)) fun u20:Bool=>u20)) fun u13:Bool=>u13)) fun u12:Bool=>some (.inr u12)) else (b6 (bif (e4.Status==1) then (b6 (bif (decide (e4.Due<s_2.Day)) then true else (b6 (bif s_2.Over then true else (b6 (bif (e4.Status==3) then (b6 (bif (decide (e4.Due≥s_2.Day)) then true else (b6 (bif (e4.Status==4) then (!s_2.Over) else false) fun u29:Bool=>u29)) fun u28:Bool=>u28) else (b6 (bif (e4.Status==4) then (!s_2.Over) else false) fun u30:Bool=>u30)) fun u27:Bool=>u27)) fun u26:Bool=>u26)) fun u25:Bool=>u25) else (b6 (bif (e4.Status==3) then (b6 (bif (decide (e4.Due≥s_2.Day)) then true else (b6 (bif (e4.Status==4) then (!s_2.Over) else false) fun u33:Bool=>u33)) fun u32:Bool=>u32) else (b6 (bif (e4.Status==4) then (!s_2.Over) else false) fun u34:Bool=>u34)) fun u31:Bool=>u31)) fun u24:Bool=>some (.inr u24))) fun u7:Bool=>bif u7 then (some false) else ((xD c_1 e4.Clause).bind fun r8=>aV (ρ:=Bool) (bif r8 then (some (.inr true)) else ((yI s_2 e4.Clause).bind fun r10=>some (.inr (r10==1)))) fun u9:Bool=>some u9))
noncomputable def xi (x_1:Int):Option Bool:=
 (cW x_1 (-1000000000) 1000000000).bind fun r2=>some r2
noncomputable def i8 (list_1:List Int)(self:(Int×Int)→Option (Int⊕Int))(x2:Int×Int):Option (Int⊕Int):=
 bif (decide (x2.2<(len list_1))) then ((aI list_1 x2.2).bind fun e3=>self ((ar (x2.1+e3)),(ar (x2.2+1)))) else (some (.inr x2.1))
noncomputable def iJ (list_1:List Int): (Int×Int)→Option (Int⊕Int):=aJ (i8 list_1)
theorem wc (list_1:List Int): ∀a,Fin1 fun f=>i8 list_1 f a:=by
 intro a
 unfold i8
 repeat first|exact aL|exact bn|refine bq ?_ ?_|refine ba ?_ (fun _=>?_)|refine aZ ?_ (fun _=>?_)|refine be ?_ (fun _=>?_)|refine bp (fun _=>?_)
theorem CT (list_1:List Int)(x:Int×Int):iJ list_1 x=i8 list_1 (iJ list_1) x:=bx (wc list_1) x
noncomputable def rY (list_1:List Int):Option Int:=
 aV (ρ:=Int) (iJ list_1 (0,0)) fun u4:Int=>some u4
noncomputable def lC (c_1:Contract)(s_2:State)(r5:(List ah))(self:Int→Option (Bool⊕Unit))(x6:Int):Option (Bool⊕Unit):=
 bif (decide (x6<(len s_2.Facts))) then ((aI s_2.Facts x6).bind fun e7=>(sd r5 e7).bind fun r8=>bif (!r8) then (some (.inl false)) else (self (ar (x6+1)))) else (some (.inr ()))
noncomputable def qk (c_1:Contract)(s_2:State)(r5:(List ah)):Int→Option (Bool⊕Unit):=aJ (lC c_1 s_2 r5)
theorem vT (c_1:Contract)(s_2:State)(r5:(List ah)):∀a,Fin1 fun f=>lC c_1 s_2 r5 f a:=by
 intro a
 unfold lC
 repeat first|exact aL|exact bn|refine bq ?_ ?_|refine ba ?_ (fun _=>?_)|refine aZ ?_ (fun _=>?_)|refine be ?_ (fun _=>?_)|refine bp (fun _=>?_)
theorem LI (c_1:Contract)(s_2:State)(r5:(List ah))(x:Int):qk c_1 s_2 r5 x=lC c_1 s_2 r5 (qk c_1 s_2 r5) x:=bx (vT c_1 s_2 r5) x
noncomputable def jc (c_1:Contract)(s_2:State)(self:Int→Option (Bool⊕Unit))(x10:Int):Option (Bool⊕Unit):=
 bif (decide (x10<(len s_2.Duties))) then ((xb c_1 s_2 x10).bind fun r11=>bif (!r11) then (some (.inl false)) else (self (ar (x10+1)))) else (some (.inr ()))
noncomputable def lr (c_1:Contract)(s_2:State): Int→Option (Bool⊕Unit):=aJ (jc c_1 s_2)
theorem vR (c_1:Contract)(s_2:State): ∀a,Fin1 fun f=>jc c_1 s_2 f a:=by
 intro a
 unfold jc
 repeat first|exact aL|exact bn|refine bq ?_ ?_|refine ba ?_ (fun _=>?_)|refine aZ ?_ (fun _=>?_)|refine be ?_ (fun _=>?_)|refine bp (fun _=>?_)
theorem Dc (c_1:Contract)(s_2:State)(x:Int):lr c_1 s_2 x=jc c_1 s_2 (lr c_1 s_2) x:=bx (vR c_1 s_2) x
noncomputable def kT (c_1:Contract)(s_2:State)(self:Int→Option (Bool⊕Unit))(x13:Int):Option (Bool⊕Unit):=
 bif (decide (x13<(len s_2.Balances))) then ((aI s_2.Balances x13).bind fun e14=>(xi e14).bind fun r15=>bif (!r15) then (some (.inl false)) else (self (ar (x13+1)))) else (some (.inr ()))
noncomputable def qS (c_1:Contract)(s_2:State): Int→Option (Bool⊕Unit):=aJ (kT c_1 s_2)
theorem v7 (c_1:Contract)(s_2:State): ∀a,Fin1 fun f=>kT c_1 s_2 f a:=by
 intro a
 unfold kT
 repeat first|exact aL|exact bn|refine bq ?_ ?_|refine ba ?_ (fun _=>?_)|refine aZ ?_ (fun _=>?_)|refine be ?_ (fun _=>?_)|refine bp (fun _=>?_)
theorem KJ (c_1:Contract)(s_2:State)(x:Int):qS c_1 s_2 x=kT c_1 s_2 (qS c_1 s_2) x:=bx (v7 c_1 s_2) x
noncomputable def rM (c_1:Contract)(s_2:State):Option Bool:=
 (yu c_1).bind fun r3=>aV (ρ:=Bool) (bif (!r3) then (some (.inr true)) else ((oM s_2.Day).bind fun r18=>bI (ρ:=Bool) (bif (!r18) then (some (.inr true)) else ((yk s_2.Facts).bind fun r20=>b6 (bif (!r20) then true else (b6 (bif (decide ((len s_2.Duties)>24)) then true else ((len s_2.Balances) != (len c_1.Parties))) fun u22:Bool=>u22)) fun u21:Bool=>some (.inr u21))) fun u19:Bool=>some (.inr u19))) fun u4:Bool=>bif u4 then (some false) else ((nu c_1).bind fun r5=>aV (ρ:=Bool) (qk c_1 s_2 r5 0) fun u9:Unit=>aV (ρ:=Bool) (lr c_1 s_2 0) fun u12:Unit=>aV (ρ:=Bool) (qS c_1 s_2 0) fun u16:Unit=>(rY s_2.Balances).bind fun r17=>some (r17==0))
noncomputable def lu (c_1:Contract)(s_2:State)(self:Int→Option ((Bool×Bool)⊕Unit))(x4:Int):Option ((Bool×Bool)⊕Unit):=
 bif (decide (x4<(len s_2.Duties))) then ((aI s_2.Duties x4).bind fun e5=>bI (ρ:=Bool×Bool) (bif (e5.Status==1) then (some (.inr true)) else ((aI s_2.Duties x4).bind fun e7=>some (.inr (e7.Status==3)))) fun u6:Bool=>bif u6 then (some (.inl (false,true))) else (self (ar (x4+1)))) else (some (.inr ()))
noncomputable def qH (c_1:Contract)(s_2:State): Int→Option ((Bool×Bool)⊕Unit):=aJ (lu c_1 s_2)
theorem ww (c_1:Contract)(s_2:State): ∀a,Fin1 fun f=>lu c_1 s_2 f a:=by
 intro a
 unfold lu
 repeat first|exact aL|exact bn|refine bq ?_ ?_|refine ba ?_ (fun _=>?_)|refine aZ ?_ (fun _=>?_)|refine be ?_ (fun _=>?_)|refine bp (fun _=>?_)
theorem KC (c_1:Contract)(s_2:State)(x:Int):qH c_1 s_2 x=lu c_1 s_2 (qH c_1 s_2) x:=bx (ww c_1 s_2) x
noncomputable def xy (c_1:Contract)(s_2:State):Option (Bool×Bool):=
 (rM c_1 s_2).bind fun r3=>bif (!r3) then (some (false,false)) else (aV (ρ:=Bool×Bool) (qH c_1 s_2 0) fun u8:Unit=>some (true,true))
noncomputable def kj (n_1:Int)(low_2:Int)(high_3:Int):Option Bool:=
 b6 (bif (decide (n_1≥low_2)) then (decide (n_1≤high_3)) else false) fun u4:Bool=>some u4
noncomputable def G7 (s_1:ah)(c_2:Int):Option Int:=
 (oE s_1 c_2).bind fun r3=>some r3
noncomputable def Hn (s_1:ah)(substr_2:ah):Option Int:=
 b6 (bif ((len substr_2)==0) then true else (substr_2==s_1)) fun u3:Bool=>bif u3 then (some 0) else (bif ((len substr_2)==1) then ((aI substr_2 0).bind fun c4=>(G7 s_1 (c4.toNat:Int)).bind fun r5=>some r5) else (bif (decide ((len substr_2)≥(len s_1))) then (some (-1)) else none))
noncomputable def D8 (s_1:ah)(substr_2:ah):Option Int:=
 (Hn s_1 substr_2).bind fun r3=>some r3
noncomputable def pn (s_1:ah)(substr_2:ah)(self:(ah×Int)→Option (Int⊕Unit))(x5:ah×Int):Option (Int⊕Unit):=
 (D8 x5.1 substr_2).bind fun r6=>bif (r6==(-1)) then (some (.inl x5.2)) else ((nz x5.1 (ar (r6+(len substr_2))) (len x5.1)).bind fun s7=>self (s7,(ar (x5.2+1))))
noncomputable def Ke (s_1:ah)(substr_2:ah): (ah×Int)→Option (Int⊕Unit):=aJ (pn s_1 substr_2)
theorem JG (s_1:ah)(substr_2:ah): ∀a,Fin1 fun f=>pn s_1 substr_2 f a:=by
 intro a
 unfold pn
 repeat first|exact aL|exact bn|refine bq ?_ ?_|refine ba ?_ (fun _=>?_)|refine aZ ?_ (fun _=>?_)|refine be ?_ (fun _=>?_)|refine bp (fun _=>?_)
noncomputable def HC (s_1:ah)(substr_2:ah):Option Int:=
 bif ((len substr_2)==0) then none else (bif ((len substr_2)==1) then ((aI substr_2 0).bind fun c3=>(tY s_1 (c3.toNat:Int)).bind fun r4=>some r4) else (aV (ρ:=Int) (Ke s_1 substr_2 (s_1,0)) fun u8:Unit=>none))
noncomputable def py (s_1:ah)(sep_2:ah)(sepSave_3:Int)(n_4:Int)(u5:Int)(self:(ah×Int×(List ah))→Option ((List ah)⊕(ah×Int×(List ah))))(x7:ah×Int×(List ah)):Option ((List ah)⊕(ah×Int×(List ah))):=
 bif (decide (x7.2.1<(ar ((if (ar ((len s_1)+1))<u5 then (ar ((len s_1)+1)) else u5) - 1)))) then ((D8 x7.1 sep_2).bind fun r8=>bif (decide (r8<0)) then (some (.inr (x7.1,x7.2.1,x7.2.2))) else ((nz x7.1 0 (ar (r8+sepSave_3))).bind fun s9=>(aI x7.2.2 x7.2.1).bind fun e10=>(nz x7.1 (ar (r8+(len sep_2))) (len x7.1)).bind fun s11=>self (s11,(ar (x7.2.1+1)),(ey x7.2.2 x7.2.1 s9)))) else (some (.inr (x7.1,x7.2.1,x7.2.2)))
noncomputable def vi (s_1:ah)(sep_2:ah)(sepSave_3:Int)(n_4:Int)(u5:Int):(ah×Int×(List ah))→Option ((List ah)⊕(ah×Int×(List ah))):=aJ (py s_1 sep_2 sepSave_3 n_4 u5)
theorem wD (s_1:ah)(sep_2:ah)(sepSave_3:Int)(n_4:Int)(u5:Int):∀a,Fin1 fun f=>py s_1 sep_2 sepSave_3 n_4 u5 f a:=by
 intro a
 unfold py
 repeat first|exact aL|exact bn|refine bq ?_ ?_|refine ba ?_ (fun _=>?_)|refine aZ ?_ (fun _=>?_)|refine be ?_ (fun _=>?_)|refine bp (fun _=>?_)
noncomputable def Gt (s_1:ah)(sep_2:ah)(sepSave_3:Int)(n_4:Int):Option (List ah):=
 bif (n_4==0) then (some []) else (bif (sep_2==([]:ah)) then none else (aV (ρ:=(List ah)) (bif (decide (n_4<0)) then ((HC s_1 sep_2).bind fun r16=>some (.inr (ar (r16+1)))) else (some (.inr n_4))) fun u5:Int=>(o7 16 [] (if (ar ((len s_1)+1))<u5 then (ar ((len s_1)+1)) else u5)).bind fun m6=>aV (ρ:=(List ah)) (vi s_1 sep_2 sepSave_3 n_4 u5 (s_1,0,m6)) fun u12:ah×Int×(List ah)=>(aI u12.2.2 u12.2.1).bind fun e13=>(gC (ey u12.2.2 u12.2.1 u12.1).length 0 (ar (u12.2.1+1))).bind fun s14=>(gI (ey u12.2.2 u12.2.1 u12.1) (0+Int.toNat (0)) (Int.toNat (ar (u12.2.1+1)) - Int.toNat (0))).bind fun p15=>some p15))
noncomputable def ym (s_1:ah)(sep_2:ah):Option (List ah):=
 (Gt s_1 sep_2 0 (-1)).bind fun r3=>some r3
noncomputable def jF (s_1:List ah)(v_2:ah)(self:Int→Option (Int⊕Unit))(x3:Int):Option (Int⊕Unit):=
 bif (decide (x3<(len s_1))) then ((aI s_1 x3).bind fun e4=>bif (v_2==e4) then (some (.inl x3)) else (self (ar (x3+1)))) else (some (.inr ()))
noncomputable def nW (s_1:List ah)(v_2:ah): Int→Option (Int⊕Unit):=aJ (jF s_1 v_2)
theorem vN (s_1:List ah)(v_2:ah): ∀a,Fin1 fun f=>jF s_1 v_2 f a:=by
 intro a
 unfold jF
 repeat first|exact aL|exact bn|refine bq ?_ ?_|refine ba ?_ (fun _=>?_)|refine aZ ?_ (fun _=>?_)|refine be ?_ (fun _=>?_)|refine bp (fun _=>?_)
theorem CI (s_1:List ah)(v_2:ah)(x:Int):nW s_1 v_2 x=jF s_1 v_2 (nW s_1 v_2) x:=bx (vN s_1 v_2) x
noncomputable def yo (s_1:List ah)(v_2:ah):Option Int:=
 aV (ρ:=Int) (nW s_1 v_2 0) fun u5:Unit=>some (-1)
noncomputable def oO (s_1:List ah)(v_2:ah):Option Bool:=
 (yo s_1 v_2).bind fun r3=>some (decide (r3≥0))
noncomputable def mA (s_1:ah)(self:Int→Option (Bool⊕Unit))(x4:Int):Option (Bool⊕Unit):=
 bif (decide (x4<(len s_1))) then ((aI s_1 x4).bind fun c5=>b6 (bif (decide ((c5.toNat:Int)<97)) then (b6 (bif (decide ((c5.toNat:Int)<48)) then true else (decide ((c5.toNat:Int)>57))) fun u7:Bool=>u7) else (b6 (bif (decide ((c5.toNat:Int)>122)) then (b6 (bif (decide ((c5.toNat:Int)<48)) then true else (decide ((c5.toNat:Int)>57))) fun u9:Bool=>u9) else false) fun u8:Bool=>u8)) fun u6:Bool=>bif u6 then (some (.inl false)) else (self (ar (x4+1)))) else (some (.inr ()))
noncomputable def uQ (s_1:ah): Int→Option (Bool⊕Unit):=aJ (mA s_1)
theorem CC (s_1:ah): ∀a,Fin1 fun f=>mA s_1 f a:=by
 intro a
 unfold mA
 repeat first|exact aL|exact bn|refine bq ?_ ?_|refine ba ?_ (fun _=>?_)|refine aZ ?_ (fun _=>?_)|refine be ?_ (fun _=>?_)|refine bp (fun _=>?_)
theorem Px (s_1:ah)(x:Int):uQ s_1 x=mA s_1 (uQ s_1) x:=bx (CC s_1) x
noncomputable def sV (s_1:ah):Option Bool:=
 (kj (len s_1) 1 8).bind fun r2=>aV (ρ:=Bool) (bif (!r2) then (some (.inr true)) else ((aI s_1 0).bind fun c13=>bI (ρ:=Bool) (bif (decide ((c13.toNat:Int)<97)) then (some (.inr true)) else ((aI s_1 0).bind fun c15=>some (.inr (decide ((c15.toNat:Int)>122))))) fun u14:Bool=>some (.inr u14))) fun u3:Bool=>bif u3 then (some false) else (aV (ρ:=Bool) (uQ s_1 0) fun u10:Unit=>(ym ([116,114,117,101,32,102,114,111,109,32,110,111,116,32,97,110,100,32,111,114,32,98,111,116,104,32,101,105,116,104,101,114,32,105,116,32,105,110]:ah) ([32]:ah)).bind fun r11=>(oO r11 s_1).bind fun r12=>some (!r12))
noncomputable def kD (list_1:List ah)(self:Int→Option (Bool⊕Unit))(x2:Int):Option (Bool⊕Unit):=
 bif (decide (x2<(len list_1))) then ((aI list_1 x2).bind fun e3=>(sV e3).bind fun r4=>bI (ρ:=Bool) (bif (!r4) then (some (.inr true)) else ((nz list_1 0 x2).bind fun s6=>(oO s6 e3).bind fun r7=>some (.inr r7))) fun u5:Bool=>bif u5 then (some (.inl false)) else (self (ar (x2+1)))) else (some (.inr ()))
noncomputable def tA (list_1:List ah): Int→Option (Bool⊕Unit):=aJ (kD list_1)
theorem zV (list_1:List ah): ∀a,Fin1 fun f=>kD list_1 f a:=by
 intro a
 unfold kD
 repeat first|exact aL|exact bn|refine bq ?_ ?_|refine ba ?_ (fun _=>?_)|refine aZ ?_ (fun _=>?_)|refine be ?_ (fun _=>?_)|refine bp (fun _=>?_)
theorem Fa (list_1:List ah)(x:Int):tA list_1 x=kD list_1 (tA list_1) x:=bx (zV list_1) x
noncomputable def GQ (list_1:List ah):Option Bool:=
 aV (ρ:=Bool) (tA list_1 0) fun u8:Unit=>(kj (len list_1) 2 4).bind fun r9=>some r9
noncomputable def NO (x_1:Clause)(a_2:ah):Option Bool:=
 some (x_1.Id==a_2)
noncomputable def kO (s_1:List Clause)(f_2:ah)(self:Int→Option (Int⊕Unit))(x3:Int):Option (Int⊕Unit):=
 bif (decide (x3<(len s_1))) then ((aI s_1 x3).bind fun e4=>(NO e4 f_2).bind fun r5=>bif r5 then (some (.inl x3)) else (self (ar (x3+1)))) else (some (.inr ()))
noncomputable def qU (s_1:List Clause)(f_2:ah): Int→Option (Int⊕Unit):=aJ (kO s_1 f_2)
theorem wL (s_1:List Clause)(f_2:ah): ∀a,Fin1 fun f=>kO s_1 f_2 f a:=by
 intro a
 unfold kO
 repeat first|exact aL|exact bn|refine bq ?_ ?_|refine ba ?_ (fun _=>?_)|refine aZ ?_ (fun _=>?_)|refine be ?_ (fun _=>?_)|refine bp (fun _=>?_)
theorem L5 (s_1:List Clause)(f_2:ah)(x:Int):qU s_1 f_2 x=kO s_1 f_2 (qU s_1 f_2) x:=bx (wL s_1 f_2) x
noncomputable def Ec (s_1:List Clause)(f_2:ah):Option Int:=
 aV (ρ:=Int) (qU s_1 f_2 0) fun u6:Unit=>some (-1)
noncomputable def Av (c_1:Contract)(id_2:ah):Option Int:=
 (Ec c_1.Clauses id_2).bind fun r3=>some r3
noncomputable def me (day_1:Int):Option Bool:=
 (kj day_1 0 36524).bind fun r2=>some r2
noncomputable def jA (slf_Ffk:(Condition×Int)→Option Int)(c_1:Condition)(so_2:Int)(self:(Int×Int)→Option (Int⊕Int))(x5:Int×Int):Option (Int⊕Int):=
 bif (decide (x5.2<(len c_1.Parts))) then ((aI c_1.Parts x5.2).bind fun e6=>(slf_Ffk (e6,x5.1)).bind fun r7=>bif (decide (r7<0)) then (some (.inl (-1))) else (self (r7,(ar (x5.2+1))))) else (some (.inr x5.1))
noncomputable def kb (slf_Ffk:(Condition×Int)→Option Int)(c_1:Condition)(so_2:Int): (Int×Int)→Option (Int⊕Int):=aJ (jA slf_Ffk c_1 so_2)
theorem BG (slf_Ffk:(Condition×Int)→Option Int)(c_1:Condition)(so_2:Int): ∀a,Fin1 fun f=>jA slf_Ffk c_1 so_2 f a:=by
 intro a
 unfold jA
 repeat first|exact aL|exact bn|refine bq ?_ ?_|refine ba ?_ (fun _=>?_)|refine aZ ?_ (fun _=>?_)|refine be ?_ (fun _=>?_)|refine bp (fun _=>?_)
theorem Ey (slf_Ffk:(Condition×Int)→Option Int)(c_1:Condition)(so_2:Int)(x:Int×Int):kb slf_Ffk c_1 so_2 x=jA slf_Ffk c_1 so_2 (kb slf_Ffk c_1 so_2) x:=bx (BG slf_Ffk c_1 so_2) x
noncomputable def vt (slf_Ffk:(Condition×Int)→Option Int)(c_1:Condition)(so_2:Int):Option Int:=
 aV (ρ:=Int) (bif (decide ((ar (so_2+1))>15)) then (some (.inr true)) else ((kj c_1.Op 1 6).bind fun r20=>bI (ρ:=Int) (bif (!r20) then (some (.inr true)) else ((aI [(-1),0,0,0,1,2,2] c_1.Op).bind fun e22=>some (.inr ((len c_1.Parts) != e22)))) fun u21:Bool=>some (.inr u21))) fun u3:Bool=>bif u3 then (some (-1)) else (aV (ρ:=Int) (bif (!((c_1.Op==2)==(!(c_1.Name==([]:ah))))) then (some (.inr true)) else (bI (ρ:=Int) (bif (c_1.Op==2) then ((sV c_1.Name).bind fun r10=>bI (ρ:=Int) (bif (!r10) then (some (.inr true)) else (bI (ρ:=Int) (bif (c_1.Op != 3) then (bI (ρ:=Int) (bif (c_1.Day != 0) then (some (.inr true)) else ((me c_1.Day).bind fun r14=>some (.inr (!r14)))) fun u13:Bool=>some (.inr u13)) else ((me c_1.Day).bind fun r15=>some (.inr (!r15)))) fun u12:Bool=>some (.inr u12))) fun u11:Bool=>some (.inr u11)) else (bI (ρ:=Int) (bif (c_1.Op != 3) then (bI (ρ:=Int) (bif (c_1.Day != 0) then (some (.inr true)) else ((me c_1.Day).bind fun r18=>some (.inr (!r18)))) fun u17:Bool=>some (.inr u17)) else ((me c_1.Day).bind fun r19=>some (.inr (!r19)))) fun u16:Bool=>some (.inr u16))) fun u9:Bool=>some (.inr u9))) fun u4:Bool=>bif u4 then (some (-1)) else (aV (ρ:=Int) (kb slf_Ffk c_1 so_2 ((ar (so_2+1)),0)) fun u8:Int=>some u8))
noncomputable def kw (slf_Ffk:(Condition×Int)→Option Int)(x:Condition×Int):Option Int:=vt slf_Ffk x.1 x.2
noncomputable def Oq (c_1:Condition)(so_2:Int):Option Int:=aJ kw (c_1,so_2)
theorem Ty:∀x,Fin1 fun slf_Ffk=>kw slf_Ffk x:=by
 intro x
 unfold kw vt
 repeat first|exact aL|exact bn|exact iR|exact lq|exact gx|exact jk|exact hC|exact hY|refine bq ?_ ?_|refine ba ?_ (fun _=>?_)|refine aZ ?_ (fun _=>?_)|refine be ?_ (fun _=>?_)|refine bp (fun _=>?_)|refine pa (fun _=>?_) | unfold kb | unfold jA
theorem VN (c_1:Condition)(so_2:Int):Oq c_1 so_2=vt (aJ kw) c_1 so_2:=bx Ty (c_1,so_2)
noncomputable def G4 (c_1:Condition):Option Bool:=
 (Oq c_1 0).bind fun r2=>some (decide (r2>0))
noncomputable def Ia (c_1:Contract)(i_2:Int):Option Bool:=
 (aI c_1.Clauses i_2).bind fun e3=>(sV e3.Id).bind fun r4=>aV (ρ:=Bool) (bif (!r4) then (some (.inr true)) else ((Av c_1 e3.Id).bind fun r23=>bI (ρ:=Bool) (bif (r23 != i_2) then (some (.inr true)) else ((sV e3.Action).bind fun r25=>bI (ρ:=Bool) (bif (!r25) then (some (.inr true)) else ((kj e3.Kind 1 4).bind fun r27=>some (.inr (!r27)))) fun u26:Bool=>some (.inr u26))) fun u24:Bool=>some (.inr u24))) fun u5:Bool=>bif u5 then (some false) else ((kj e3.Party 0 (ar ((len c_1.Parties) - 1))).bind fun r6=>aV (ρ:=Bool) (bif (!r6) then (some (.inr true)) else ((kj e3.Other 0 (ar ((len c_1.Parties) - 1))).bind fun r19=>bI (ρ:=Bool) (bif (!r19) then (some (.inr true)) else (bI (ρ:=Bool) (bif (e3.Party==e3.Other) then (some (.inr true)) else ((G4 e3.When).bind fun r22=>some (.inr (!r22)))) fun u21:Bool=>some (.inr u21))) fun u20:Bool=>some (.inr u20))) fun u7:Bool=>bif u7 then (some false) else ((kj e3.Amount 0 1000000).bind fun r8=>aV (ρ:=Bool) (bif (!r8) then (some (.inr true)) else ((kj e3.Within 0 400).bind fun r15=>b6 (bif (!r15) then true else (b6 (bif (e3.Kind != 1) then (b6 (bif (e3.Amount != 0) then true else (e3.Within != 0)) fun u18:Bool=>u18) else false) fun u17:Bool=>u17)) fun u16:Bool=>some (.inr u16))) fun u9:Bool=>bif u9 then (some false) else (bif (e3.Repair==([]:ah)) then (some true) else ((Av c_1 e3.Repair).bind fun r10=>aV (ρ:=Bool) (bif (e3.Kind != 3) then (bI (ρ:=Bool) (bif (decide (r10≥0)) then (bI (ρ:=Bool) (bif (r10 != i_2) then ((aI c_1.Clauses r10).bind fun e14=>some (.inr (e14.Kind==1))) else (some (.inr false))) fun u13:Bool=>some (.inr u13)) else (some (.inr false))) fun u12:Bool=>some (.inr u12)) else (some (.inr false))) fun u11:Bool=>some u11))))
noncomputable def jh (slf_Ffg:(Condition×(List ah))→Option (List ah))(c_3:Condition)(list_4:List ah)(self:(Int×(List ah))→Option ((List ah)⊕(List ah)))(x4:Int×(List ah)):Option ((List ah)⊕(List ah)):=
 bif (decide (x4.1<(len c_3.Parts))) then ((aI c_3.Parts x4.1).bind fun e5=>(slf_Ffg (e5,x4.2)).bind fun r6=>self ((ar (x4.1+1)),r6)) else (some (.inr x4.2))
noncomputable def lE (slf_Ffg:(Condition×(List ah))→Option (List ah))(c_3:Condition)(list_4:List ah): (Int×(List ah))→Option ((List ah)⊕(List ah)):=aJ (jh slf_Ffg c_3 list_4)
theorem Bv (slf_Ffg:(Condition×(List ah))→Option (List ah))(c_3:Condition)(list_4:List ah): ∀a,Fin1 fun f=>jh slf_Ffg c_3 list_4 f a:=by
 intro a
 unfold jh
 repeat first|exact aL|exact bn|refine bq ?_ ?_|refine ba ?_ (fun _=>?_)|refine aZ ?_ (fun _=>?_)|refine be ?_ (fun _=>?_)|refine bp (fun _=>?_)
theorem E5 (slf_Ffg:(Condition×(List ah))→Option (List ah))(c_3:Condition)(list_4:List ah)(x:Int×(List ah)):lE slf_Ffg c_3 list_4 x=jh slf_Ffg c_3 list_4 (lE slf_Ffg c_3 list_4) x:=bx (Bv slf_Ffg c_3 list_4) x
noncomputable def vb (slf_Ffg:(Condition×(List ah))→Option (List ah))(c_3:Condition)(list_4:List ah):Option (List ah):=
 aV (ρ:=(List ah)) (bif (c_3.Op==2) then ((kx 16 list_4 [c_3.Name]).bind fun a8=>some (.inr a8)) else (some (.inr list_4))) fun u3:(List ah)=>aV (ρ:=(List ah)) (lE slf_Ffg c_3 list_4 (0,u3)) fun u7:(List ah)=>some u7
noncomputable def lP (slf_Ffg:(Condition×(List ah))→Option (List ah))(x:Condition×(List ah)):Option (List ah):=vb slf_Ffg x.1 x.2
noncomputable def NN (c_3:Condition)(list_4:List ah):Option (List ah):=aJ lP (c_3,list_4)
theorem UA:∀x,Fin1 fun slf_Ffg=>lP slf_Ffg x:=by
 intro x
 unfold lP vb
 repeat first|exact aL|exact bn|exact iR|exact lq|exact gx|exact jk|exact hC|exact hY|refine bq ?_ ?_|refine ba ?_ (fun _=>?_)|refine aZ ?_ (fun _=>?_)|refine be ?_ (fun _=>?_)|refine bp (fun _=>?_)|refine pa (fun _=>?_) | unfold lE | unfold jh
theorem UT (c_3:Condition)(list_4:List ah):NN c_3 list_4=vb (aJ lP) c_3 list_4:=bx UA (c_3,list_4)
noncomputable def ja (s_2:List ah)(x2:Int)(self:(Int×Int×(List ah))→Option ((List ah)⊕(Int×(List ah))))(x6:Int×Int×(List ah)):Option ((List ah)⊕(Int×(List ah))):=
 bif (decide (x6.2.1<(((Int.toNat (len s_2) - Int.toNat x2):Nat):Int))) then ((rH x6.2.2 (0+Int.toNat x2) (Int.toNat (len s_2) - Int.toNat x2) x6.2.1).bind fun e7=>(rH x6.2.2 (0+Int.toNat x2) (Int.toNat (len s_2) - Int.toNat x2) (ar (x6.2.1 - 1))).bind fun e8=>bI (ρ:=(List ah)) (bif (!(e7==e8)) then ((rH x6.2.2 (0+Int.toNat x2) (Int.toNat (len s_2) - Int.toNat x2) x6.2.1).bind fun e10=>(aI x6.2.2 x6.1).bind fun e11=>some (.inr ((ar (x6.1+1)),(ey x6.2.2 x6.1 e10)))) else (some (.inr (x6.1,x6.2.2)))) fun u9:Int×(List ah)=>self (u9.1,(ar (x6.2.1+1)),u9.2)) else (some (.inr (x6.1,x6.2.2)))
noncomputable def iL (s_2:List ah)(x2:Int):(Int×Int×(List ah))→Option ((List ah)⊕(Int×(List ah))):=aJ (ja s_2 x2)
theorem vJ (s_2:List ah)(x2:Int):∀a,Fin1 fun f=>ja s_2 x2 f a:=by
 intro a
 unfold ja
 repeat first|exact aL|exact bn|refine bq ?_ ?_|refine ba ?_ (fun _=>?_)|refine aZ ?_ (fun _=>?_)|refine be ?_ (fun _=>?_)|refine bp (fun _=>?_)
theorem Dg (s_2:List ah)(x2:Int)(x:Int×Int×(List ah)):iL s_2 x2 x=ja s_2 x2 (iL s_2 x2) x:=bx (vJ s_2 x2) x
noncomputable def jt (s_2:List ah)(self:Int→Option ((List ah)⊕(List ah)))(x2:Int):Option ((List ah)⊕(List ah)):=
 bif (decide (x2<(len s_2))) then ((aI s_2 x2).bind fun e3=>(aI s_2 (ar (x2 - 1))).bind fun e4=>bif (e3==e4) then ((gC s_2.length x2 (len s_2)).bind fun s5=>bI (ρ:=(List ah)) (iL s_2 x2 (x2,1,s_2)) fun u15:Int×(List ah)=>(gC u15.2.length u15.1 (len u15.2)).bind fun s16=>(sX u15.2 (0+Int.toNat u15.1) (Int.toNat (len u15.2) - Int.toNat u15.1) []).bind fun k17=>(gC k17.length 0 u15.1).bind fun s18=>(gI k17 (0+Int.toNat (0)) (Int.toNat u15.1 - Int.toNat (0))).bind fun p19=>some (.inl p19)) else (self (ar (x2+1)))) else (some (.inr s_2))
noncomputable def oe (s_2:List ah): Int→Option ((List ah)⊕(List ah)):=aJ (jt s_2)
theorem vY (s_2:List ah): ∀a,Fin1 fun f=>jt s_2 f a:=by
 intro a
 unfold jt
 repeat first|exact aL|exact bn|refine bq ?_ ?_|refine ba ?_ (fun _=>?_)|refine aZ ?_ (fun _=>?_)|refine be ?_ (fun _=>?_)|refine bp (fun _=>?_)
theorem B7 (s_2:List ah)(x:Int):oe s_2 x=jt s_2 (oe s_2) x:=bx (vY s_2) x
noncomputable def xC (s_2:List ah):Option (List ah):=
 bif (decide ((len s_2)<2)) then (some s_2) else (aV (ρ:=(List ah)) (oe s_2 1) fun u20:(List ah)=>some u20)
noncomputable def Hw (list_5:List ah):Option (List ah):=
 (qy list_5).bind fun r2=>bif Nat.beq r2.length list_5.length then ((xC r2).bind fun r4=>some r4) else none
noncomputable def kG (c_1:Contract)(self:(Int×(List ah))→Option ((List ah)⊕(List ah)))(x2:Int×(List ah)):Option ((List ah)⊕(List ah)):=
 bif (decide (x2.1<(len c_1.Clauses))) then ((aI c_1.Clauses x2.1).bind fun e3=>(kx 16 x2.2 [e3.Action]).bind fun a4=>(NN e3.When a4).bind fun r5=>self ((ar (x2.1+1)),r5)) else (some (.inr x2.2))
noncomputable def ng (c_1:Contract): (Int×(List ah))→Option ((List ah)⊕(List ah)):=aJ (kG c_1)
theorem BZ (c_1:Contract): ∀a,Fin1 fun f=>kG c_1 f a:=by
 intro a
 unfold kG
 repeat first|exact aL|exact bn|refine bq ?_ ?_|refine ba ?_ (fun _=>?_)|refine aZ ?_ (fun _=>?_)|refine be ?_ (fun _=>?_)|refine bp (fun _=>?_)
theorem EU (c_1:Contract)(x:Int×(List ah)):ng c_1 x=kG c_1 (ng c_1) x:=bx (BZ c_1) x
noncomputable def vS (c_1:Contract):Option (List ah):=
 aV (ρ:=(List ah)) (ng c_1 (0,[])) fun u6:(List ah)=>(Hw u6).bind fun r7=>some r7
noncomputable def kB (c_1:Contract)(self:Int→Option (Bool⊕Unit))(x4:Int):Option (Bool⊕Unit):=
 bif (decide (x4<(len c_1.Clauses))) then ((Ia c_1 x4).bind fun r5=>bif (!r5) then (some (.inl false)) else (self (ar (x4+1)))) else (some (.inr ()))
noncomputable def lZ (c_1:Contract): Int→Option (Bool⊕Unit):=aJ (kB c_1)
theorem Bm (c_1:Contract): ∀a,Fin1 fun f=>kB c_1 f a:=by
 intro a
 unfold kB
 repeat first|exact aL|exact bn|refine bq ?_ ?_|refine ba ?_ (fun _=>?_)|refine aZ ?_ (fun _=>?_)|refine be ?_ (fun _=>?_)|refine bp (fun _=>?_)
theorem EN (c_1:Contract)(x:Int):lZ c_1 x=kB c_1 (lZ c_1) x:=bx (Bm c_1) x
noncomputable def Gr (c_1:Contract):Option Bool:=
 (GQ c_1.Parties).bind fun r2=>aV (ρ:=Bool) (bif (!r2) then (some (.inr true)) else ((kj (len c_1.Clauses) 1 12).bind fun r8=>some (.inr (!r8)))) fun u3:Bool=>bif u3 then (some false) else (aV (ρ:=Bool) (lZ c_1 0) fun u6:Unit=>(vS c_1).bind fun r7=>some (decide ((len r7)≤16)))
noncomputable def kA (facts_1:List ah)(self:Int→Option (Bool⊕Unit))(x2:Int):Option (Bool⊕Unit):=
 bif (decide (x2<(len facts_1))) then ((aI facts_1 x2).bind fun e3=>(sV e3).bind fun r4=>bI (ρ:=Bool) (bif (!r4) then (some (.inr true)) else (bI (ρ:=Bool) (bif (decide (x2>0)) then ((aI facts_1 (ar (x2 - 1))).bind fun e7=>some (.inr (Op.bytesLess e3 e7||e3==e7))) else (some (.inr false))) fun u6:Bool=>some (.inr u6))) fun u5:Bool=>bif u5 then (some (.inl false)) else (self (ar (x2+1)))) else (some (.inr ()))
noncomputable def lT (facts_1:List ah): Int→Option (Bool⊕Unit):=aJ (kA facts_1)
theorem BI (facts_1:List ah): ∀a,Fin1 fun f=>kA facts_1 f a:=by
 intro a
 unfold kA
 repeat first|exact aL|exact bn|refine bq ?_ ?_|refine ba ?_ (fun _=>?_)|refine aZ ?_ (fun _=>?_)|refine be ?_ (fun _=>?_)|refine bp (fun _=>?_)
theorem E9 (facts_1:List ah)(x:Int):lT facts_1 x=kA facts_1 (lT facts_1) x:=bx (BI facts_1) x
noncomputable def HT (facts_1:List ah):Option Bool:=
 aV (ρ:=Bool) (lT facts_1 0) fun u8:Unit=>some (decide ((len facts_1)≤16))
noncomputable def GN (f_1:ah)(a_2:List ah):Option Bool:=
 (oO a_2 f_1).bind fun r3=>some (!r3)
noncomputable def lx (s_1:List ah)(f_2:(List ah))(self:Int→Option (Int⊕Unit))(x3:Int):Option (Int⊕Unit):=
 bif (decide (x3<(len s_1))) then ((aI s_1 x3).bind fun e4=>(GN e4 f_2).bind fun r5=>bif r5 then (some (.inl x3)) else (self (ar (x3+1)))) else (some (.inr ()))
noncomputable def qE (s_1:List ah)(f_2:(List ah)): Int→Option (Int⊕Unit):=aJ (lx s_1 f_2)
theorem vM (s_1:List ah)(f_2:(List ah)): ∀a,Fin1 fun f=>lx s_1 f_2 f a:=by
 intro a
 unfold lx
 repeat first|exact aL|exact bn|refine bq ?_ ?_|refine ba ?_ (fun _=>?_)|refine aZ ?_ (fun _=>?_)|refine be ?_ (fun _=>?_)|refine bp (fun _=>?_)
theorem KI (s_1:List ah)(f_2:(List ah))(x:Int):qE s_1 f_2 x=lx s_1 f_2 (qE s_1 f_2) x:=bx (vM s_1 f_2) x
noncomputable def D9 (s_1:List ah)(f_2:(List ah)):Option Int:=
 aV (ρ:=Int) (qE s_1 f_2 0) fun u6:Unit=>some (-1)
noncomputable def D0 (s_1:List ah)(f_2:(List ah)):Option Bool:=
 (D9 s_1 f_2).bind fun r3=>some (decide (r3≥0))
noncomputable def rx (list_1:List Int)(self:(Int×Int)→Option (Int⊕Int))(x2:Int×Int):Option (Int⊕Int):=
 bif (decide (x2.2<(len list_1))) then ((aI list_1 x2.2).bind fun e3=>self ((ar (x2.1+e3)),(ar (x2.2+1)))) else (some (.inr x2.1))
noncomputable def IB (list_1:List Int): (Int×Int)→Option (Int⊕Int):=aJ (rx list_1)
theorem L0 (list_1:List Int): ∀a,Fin1 fun f=>rx list_1 f a:=by
 intro a
 unfold rx
 repeat first|exact aL|exact bn|refine bq ?_ ?_|refine ba ?_ (fun _=>?_)|refine aZ ?_ (fun _=>?_)|refine be ?_ (fun _=>?_)|refine bp (fun _=>?_)
noncomputable def Eu (list_1:List Int):Option Int:=
 aV (ρ:=Int) (IB list_1 (0,0)) fun u4:Int=>some u4
noncomputable def Io (x_1:Clause)(a_2:Contract)(a_3:Int):Option Bool:=
 (aI a_2.Clauses a_3).bind fun e4=>some (x_1.Repair==e4.Id)
noncomputable def kU (s_1:List Clause)(f_2:Contract×Int)(self:Int→Option (Int⊕Unit))(x3:Int):Option (Int⊕Unit):=
 bif (decide (x3<(len s_1))) then ((aI s_1 x3).bind fun e4=>(Io e4 f_2.1 f_2.2).bind fun r5=>bif r5 then (some (.inl x3)) else (self (ar (x3+1)))) else (some (.inr ()))
noncomputable def qT (s_1:List Clause)(f_2:Contract×Int): Int→Option (Int⊕Unit):=aJ (kU s_1 f_2)
theorem vP (s_1:List Clause)(f_2:Contract×Int): ∀a,Fin1 fun f=>kU s_1 f_2 f a:=by
 intro a
 unfold kU
 repeat first|exact aL|exact bn|refine bq ?_ ?_|refine ba ?_ (fun _=>?_)|refine aZ ?_ (fun _=>?_)|refine be ?_ (fun _=>?_)|refine bp (fun _=>?_)
theorem KZ (s_1:List Clause)(f_2:Contract×Int)(x:Int):qT s_1 f_2 x=kU s_1 f_2 (qT s_1 f_2) x:=bx (vP s_1 f_2) x
noncomputable def Ei (s_1:List Clause)(f_2:Contract×Int):Option Int:=
 aV (ρ:=Int) (qT s_1 f_2 0) fun u6:Unit=>some (-1)
noncomputable def En (s_1:List Clause)(f_2:Contract×Int):Option Bool:=
 (Ei s_1 (f_2.1,f_2.2)).bind fun r3=>some (decide (r3≥0))
noncomputable def Im (c_1:Contract)(i_2:Int):Option Bool:=
 (En c_1.Clauses (c_1,i_2)).bind fun r3=>some r3
noncomputable def J5 (other_1:Duty)(a_2:Duty):Option Bool:=
 some (other_1.Clause==a_2.Clause)
noncomputable def kP (s_1:List Duty)(f_2:Duty)(self:Int→Option (Int⊕Unit))(x3:Int):Option (Int⊕Unit):=
 bif (decide (x3<(len s_1))) then ((aI s_1 x3).bind fun e4=>(J5 e4 f_2).bind fun r5=>bif r5 then (some (.inl x3)) else (self (ar (x3+1)))) else (some (.inr ()))
noncomputable def ri (s_1:List Duty)(f_2:Duty): Int→Option (Int⊕Unit):=aJ (kP s_1 f_2)
theorem vD (s_1:List Duty)(f_2:Duty): ∀a,Fin1 fun f=>kP s_1 f_2 f a:=by
 intro a
 unfold kP
 repeat first|exact aL|exact bn|refine bq ?_ ?_|refine ba ?_ (fun _=>?_)|refine aZ ?_ (fun _=>?_)|refine be ?_ (fun _=>?_)|refine bp (fun _=>?_)
theorem L3 (s_1:List Duty)(f_2:Duty)(x:Int):ri s_1 f_2 x=kP s_1 f_2 (ri s_1 f_2) x:=bx (vD s_1 f_2) x
noncomputable def Du (s_1:List Duty)(f_2:Duty):Option Int:=
 aV (ρ:=Int) (ri s_1 f_2 0) fun u6:Unit=>some (-1)
noncomputable def Ep (s_1:List Duty)(f_2:Duty):Option Bool:=
 (Du s_1 f_2).bind fun r3=>some (decide (r3≥0))
noncomputable def Hj (c_1:Contract)(s_2:State)(i_3:Int):Option Bool:=
 (aI s_2.Duties i_3).bind fun e4=>(kj e4.Clause 0 (ar ((len c_1.Clauses) - 1))).bind fun r5=>aV (ρ:=Bool) (bif (!r5) then (some (.inr true)) else ((aI c_1.Clauses e4.Clause).bind fun e18=>bI (ρ:=Bool) (bif (e18.Kind != 1) then (some (.inr true)) else ((kj e4.Since 0 s_2.Day).bind fun r20=>some (.inr (!r20)))) fun u19:Bool=>some (.inr u19))) fun u6:Bool=>bif u6 then (some false) else ((aI c_1.Clauses e4.Clause).bind fun e7=>aV (ρ:=Bool) (bif (e4.Due != (ar (e4.Since+e7.Within))) then (some (.inr true)) else ((me e4.Due).bind fun r14=>bI (ρ:=Bool) (bif (!r14) then (some (.inr true)) else (bI (ρ:=Bool) (bif (decide (i_3>0)) then ((aI s_2.Duties (ar (i_3 - 1))).bind fun e17=>some (.inr (decide (e4.Since<e17.Since)))) else (some (.inr false))) fun u16:Bool=>some (.inr u16))) fun u15:Bool=>some (.inr u15))) fun u8:Bool=>bif u8 then (some false) else ((Im c_1 e4.Clause).bind fun r9=>aV (ρ:=Bool) (bif (!r9) then ((nz s_2.Duties 0 i_3).bind fun s12=>(Ep s12 e4).bind fun r13=>some (.inr r13)) else (some (.inr false))) fun u10:Bool=>bif u10 then (some false) else (bif (e4.Status==1) then (b6 (bif (decide (e4.Due≥s_2.Day)) then (!s_2.Over) else false) fun u11:Bool=>some u11) else (bif (e4.Status==2) then (some true) else (bif (e4.Status==3) then (some (decide (e4.Due<s_2.Day))) else (bif (e4.Status==4) then (some s_2.Over) else (some false)))))))
noncomputable def Kn (x_1:Int):Option Bool:=
 (kj x_1 (-1000000000) 1000000000).bind fun r2=>some r2
noncomputable def H6 (b_1:Int):Option Bool:=
 (Kn b_1).bind fun r2=>some (!r2)
noncomputable def kI (s_1:List Int)(f_2:Unit)(self:Int→Option (Int⊕Unit))(x3:Int):Option (Int⊕Unit):=
 bif (decide (x3<(len s_1))) then ((aI s_1 x3).bind fun e4=>(H6 e4).bind fun r5=>bif r5 then (some (.inl x3)) else (self (ar (x3+1)))) else (some (.inr ()))
noncomputable def qX (s_1:List Int)(f_2:Unit): Int→Option (Int⊕Unit):=aJ (kI s_1 f_2)
theorem v8 (s_1:List Int)(f_2:Unit): ∀a,Fin1 fun f=>kI s_1 f_2 f a:=by
 intro a
 unfold kI
 repeat first|exact aL|exact bn|refine bq ?_ ?_|refine ba ?_ (fun _=>?_)|refine aZ ?_ (fun _=>?_)|refine be ?_ (fun _=>?_)|refine bp (fun _=>?_)
theorem Kt (s_1:List Int)(f_2:Unit)(x:Int):qX s_1 f_2 x=kI s_1 f_2 (qX s_1 f_2) x:=bx (v8 s_1 f_2) x
noncomputable def D7 (s_1:List Int)(f_2:Unit):Option Int:=
 aV (ρ:=Int) (qX s_1 f_2 0) fun u6:Unit=>some (-1)
noncomputable def D1 (s_1:List Int)(f_2:Unit):Option Bool:=
 (D7 s_1 ()).bind fun r3=>some (decide (r3≥0))
noncomputable def kH (c_1:Contract)(s_2:State)(self:Int→Option (Bool⊕Unit))(x7:Int):Option (Bool⊕Unit):=
 bif (decide (x7<(len s_2.Duties))) then ((Hj c_1 s_2 x7).bind fun r8=>bif (!r8) then (some (.inl false)) else (self (ar (x7+1)))) else (some (.inr ()))
noncomputable def nq (c_1:Contract)(s_2:State): Int→Option (Bool⊕Unit):=aJ (kH c_1 s_2)
theorem CO (c_1:Contract)(s_2:State): ∀a,Fin1 fun f=>kH c_1 s_2 f a:=by
 intro a
 unfold kH
 repeat first|exact aL|exact bn|refine bq ?_ ?_|refine ba ?_ (fun _=>?_)|refine aZ ?_ (fun _=>?_)|refine be ?_ (fun _=>?_)|refine bp (fun _=>?_)
theorem EX (c_1:Contract)(s_2:State)(x:Int):nq c_1 s_2 x=kH c_1 s_2 (nq c_1 s_2) x:=bx (CO c_1 s_2) x
noncomputable def HS (c_1:Contract)(s_2:State):Option Bool:=
 (vS c_1).bind fun r3=>(me s_2.Day).bind fun r4=>aV (ρ:=Bool) (bif (!r4) then (some (.inr true)) else ((HT s_2.Facts).bind fun r13=>bI (ρ:=Bool) (bif (!r13) then (some (.inr true)) else ((D0 s_2.Facts r3).bind fun r15=>some (.inr r15))) fun u14:Bool=>some (.inr u14))) fun u5:Bool=>bif u5 then (some false) else (aV (ρ:=Bool) (bif (decide ((len s_2.Duties)>24)) then (some (.inr true)) else (bI (ρ:=Bool) (bif ((len s_2.Balances) != (len c_1.Parties)) then (some (.inr true)) else ((Eu s_2.Balances).bind fun r12=>some (.inr (r12 != 0)))) fun u11:Bool=>some (.inr u11))) fun u6:Bool=>bif u6 then (some false) else (aV (ρ:=Bool) (nq c_1 s_2 0) fun u9:Unit=>(D1 s_2.Balances ()).bind fun r10=>some (!r10)))
noncomputable def EY (c_1:Contract)(s_2:State):Option Bool:=
 (Gr c_1).bind fun r3=>aV (ρ:=Bool) (bif r3 then ((HS c_1 s_2).bind fun r5=>some (.inr r5)) else (some (.inr false))) fun u4:Bool=>some u4
noncomputable def Gw (d_1:Duty):Option Bool:=
 b6 (bif (d_1.Status==1) then true else (d_1.Status==3)) fun u2:Bool=>some u2
noncomputable def ld (s_1:List Duty)(f_2:Unit)(self:Int→Option (Int⊕Unit))(x3:Int):Option (Int⊕Unit):=
 bif (decide (x3<(len s_1))) then ((aI s_1 x3).bind fun e4=>(Gw e4).bind fun r5=>bif r5 then (some (.inl x3)) else (self (ar (x3+1)))) else (some (.inr ()))
noncomputable def qd (s_1:List Duty)(f_2:Unit): Int→Option (Int⊕Unit):=aJ (ld s_1 f_2)
theorem wA (s_1:List Duty)(f_2:Unit): ∀a,Fin1 fun f=>ld s_1 f_2 f a:=by
 intro a
 unfold ld
 repeat first|exact aL|exact bn|refine bq ?_ ?_|refine ba ?_ (fun _=>?_)|refine aZ ?_ (fun _=>?_)|refine be ?_ (fun _=>?_)|refine bp (fun _=>?_)
theorem KM (s_1:List Duty)(f_2:Unit)(x:Int):qd s_1 f_2 x=ld s_1 f_2 (qd s_1 f_2) x:=bx (wA s_1 f_2) x
noncomputable def Eo (s_1:List Duty)(f_2:Unit):Option Int:=
 aV (ρ:=Int) (qd s_1 f_2 0) fun u6:Unit=>some (-1)
noncomputable def Er (s_1:List Duty)(f_2:Unit):Option Bool:=
 (Eo s_1 ()).bind fun r3=>some (decide (r3≥0))
noncomputable def Hl (c_1:Contract)(s_2:State):Option (Bool×Bool):=
 (EY c_1 s_2).bind fun r3=>bif (!r3) then (some (false,false)) else ((Er s_2.Duties ()).bind fun r4=>some ((!r4),true))
noncomputable def lm (a_1:List ah)(b_2:List ah)(self:Int→Option (Bool⊕Unit))(x3:Int):Option (Bool⊕Unit):=
 bif (decide (x3<(len a_1))) then ((aI a_1 x3).bind fun e4=>(aI b_2 x3).bind fun e5=>bif (!(e4==e5)) then (some (.inl false)) else (self (ar (x3+1)))) else (some (.inr ()))
noncomputable def qB (a_1:List ah)(b_2:List ah): Int→Option (Bool⊕Unit):=aJ (lm a_1 b_2)
theorem vz (a_1:List ah)(b_2:List ah): ∀a,Fin1 fun f=>lm a_1 b_2 f a:=by
 intro a
 unfold lm
 repeat first|exact aL|exact bn|refine bq ?_ ?_|refine ba ?_ (fun _=>?_)|refine aZ ?_ (fun _=>?_)|refine be ?_ (fun _=>?_)|refine bp (fun _=>?_)
theorem KY (a_1:List ah)(b_2:List ah)(x:Int):qB a_1 b_2 x=lm a_1 b_2 (qB a_1 b_2) x:=bx (vz a_1 b_2) x
noncomputable def ug (a_1:List ah)(b_2:List ah):Option Bool:=
 bif ((len a_1) != (len b_2)) then (some false) else (aV (ρ:=Bool) (qB a_1 b_2 0) fun u6:Unit=>some true)
noncomputable def jE (slf_Ffbe:(Condition×Condition)→Option Bool)(a_1:List Condition)(b_2:List Condition)(self:Int→Option (Bool⊕Unit))(x3:Int):Option (Bool⊕Unit):=
 bif (decide (x3<(len a_1))) then ((aI a_1 x3).bind fun e4=>(aI b_2 x3).bind fun e5=>(slf_Ffbe (e4,e5)).bind fun r6=>bif (!r6) then (some (.inl false)) else (self (ar (x3+1)))) else (some (.inr ()))
noncomputable def ob (slf_Ffbe:(Condition×Condition)→Option Bool)(a_1:List Condition)(b_2:List Condition): Int→Option (Bool⊕Unit):=aJ (jE slf_Ffbe a_1 b_2)
theorem wb (slf_Ffbe:(Condition×Condition)→Option Bool)(a_1:List Condition)(b_2:List Condition): ∀a,Fin1 fun f=>jE slf_Ffbe a_1 b_2 f a:=by
 intro a
 unfold jE
 repeat first|exact aL|exact bn|refine bq ?_ ?_|refine ba ?_ (fun _=>?_)|refine aZ ?_ (fun _=>?_)|refine be ?_ (fun _=>?_)|refine bp (fun _=>?_)
theorem Lc (slf_Ffbe:(Condition×Condition)→Option Bool)(a_1:List Condition)(b_2:List Condition)(x:Int):ob slf_Ffbe a_1 b_2 x=jE slf_Ffbe a_1 b_2 (ob slf_Ffbe a_1 b_2) x:=bx (wb slf_Ffbe a_1 b_2) x
noncomputable def tC (slf_Ffbe:(Condition×Condition)→Option Bool)(a_1:List Condition)(b_2:List Condition):Option Bool:=
 bif ((len a_1) != (len b_2)) then (some false) else (aV (ρ:=Bool) (ob slf_Ffbe a_1 b_2 0) fun u7:Unit=>some true)
noncomputable def qL (slf_Ffbe:(Condition×Condition)→Option Bool)(a_1:Condition)(b_2:Condition):Option Bool:=
 bif (a_1.Op != b_2.Op) then (some false) else (bif (!(a_1.Name==b_2.Name)) then (some false) else (bif (a_1.Day != b_2.Day) then (some false) else ((tC slf_Ffbe a_1.Parts b_2.Parts).bind fun r3=>bif (!r3) then (some false) else (some true))))
noncomputable def nm (slf_Ffbe:(Condition×Condition)→Option Bool)(x:Condition×Condition):Option Bool:=qL slf_Ffbe x.1 x.2
noncomputable def xX (a_1:Condition)(b_2:Condition):Option Bool:=aJ nm (a_1,b_2)
theorem RX:∀x,Fin1 fun slf_Ffbe=>nm slf_Ffbe x:=by
 intro x
 unfold nm qL
 repeat first|exact aL|exact bn|exact iR|exact lq|exact gx|exact jk|exact hC|exact hY|refine bq ?_ ?_|refine ba ?_ (fun _=>?_)|refine aZ ?_ (fun _=>?_)|refine be ?_ (fun _=>?_)|refine bp (fun _=>?_)|refine pa (fun _=>?_) | unfold tC | unfold ob | unfold jE
theorem UO (a_1:Condition)(b_2:Condition):xX a_1 b_2=qL (aJ nm) a_1 b_2:=bx RX (a_1,b_2)
noncomputable def uK (a_1:Clause)(b_2:Clause):Option Bool:=
 bif (!(a_1.Id==b_2.Id)) then (some false) else (bif (a_1.Kind != b_2.Kind) then (some false) else (bif (a_1.Party != b_2.Party) then (some false) else (bif (!(a_1.Action==b_2.Action)) then (some false) else (bif (a_1.Other != b_2.Other) then (some false) else (bif (a_1.Amount != b_2.Amount) then (some false) else ((xX a_1.When b_2.When).bind fun r3=>bif (!r3) then (some false) else (bif (a_1.Within != b_2.Within) then (some false) else (bif (!(a_1.Repair==b_2.Repair)) then (some false) else (some true)))))))))
noncomputable def lw (a_1:List Clause)(b_2:List Clause)(self:Int→Option (Bool⊕Unit))(x3:Int):Option (Bool⊕Unit):=
 bif (decide (x3<(len a_1))) then ((aI a_1 x3).bind fun e4=>(aI b_2 x3).bind fun e5=>(uK e4 e5).bind fun r6=>bif (!r6) then (some (.inl false)) else (self (ar (x3+1)))) else (some (.inr ()))
noncomputable def qe (a_1:List Clause)(b_2:List Clause): Int→Option (Bool⊕Unit):=aJ (lw a_1 b_2)
theorem vI (a_1:List Clause)(b_2:List Clause): ∀a,Fin1 fun f=>lw a_1 b_2 f a:=by
 intro a
 unfold lw
 repeat first|exact aL|exact bn|refine bq ?_ ?_|refine ba ?_ (fun _=>?_)|refine aZ ?_ (fun _=>?_)|refine be ?_ (fun _=>?_)|refine bp (fun _=>?_)
theorem K5 (a_1:List Clause)(b_2:List Clause)(x:Int):qe a_1 b_2 x=lw a_1 b_2 (qe a_1 b_2) x:=bx (vI a_1 b_2) x
noncomputable def yV (a_1:List Clause)(b_2:List Clause):Option Bool:=
 bif ((len a_1) != (len b_2)) then (some false) else (aV (ρ:=Bool) (qe a_1 b_2 0) fun u7:Unit=>some true)
noncomputable def yD (a_1:Contract)(b_2:Contract):Option Bool:=
 (ug a_1.Parties b_2.Parties).bind fun r3=>bif (!r3) then (some false) else ((yV a_1.Clauses b_2.Clauses).bind fun r4=>bif (!r4) then (some false) else (some true))
noncomputable def tL (a_1:Duty)(b_2:Duty):Option Bool:=
 bif (a_1.Clause != b_2.Clause) then (some false) else (bif (a_1.Since != b_2.Since) then (some false) else (bif (a_1.Due != b_2.Due) then (some false) else (bif (a_1.Status != b_2.Status) then (some false) else (some true))))
noncomputable def lj (a_1:List Duty)(b_2:List Duty)(self:Int→Option (Bool⊕Unit))(x3:Int):Option (Bool⊕Unit):=
 bif (decide (x3<(len a_1))) then ((aI a_1 x3).bind fun e4=>(aI b_2 x3).bind fun e5=>(tL e4 e5).bind fun r6=>bif (!r6) then (some (.inl false)) else (self (ar (x3+1)))) else (some (.inr ()))
noncomputable def qV (a_1:List Duty)(b_2:List Duty): Int→Option (Bool⊕Unit):=aJ (lj a_1 b_2)
theorem wG (a_1:List Duty)(b_2:List Duty): ∀a,Fin1 fun f=>lj a_1 b_2 f a:=by
 intro a
 unfold lj
 repeat first|exact aL|exact bn|refine bq ?_ ?_|refine ba ?_ (fun _=>?_)|refine aZ ?_ (fun _=>?_)|refine be ?_ (fun _=>?_)|refine bp (fun _=>?_)
theorem LT (a_1:List Duty)(b_2:List Duty)(x:Int):qV a_1 b_2 x=lj a_1 b_2 (qV a_1 b_2) x:=bx (wG a_1 b_2) x
noncomputable def yB (a_1:List Duty)(b_2:List Duty):Option Bool:=
 bif ((len a_1) != (len b_2)) then (some false) else (aV (ρ:=Bool) (qV a_1 b_2 0) fun u7:Unit=>some true)
noncomputable def kK (a_1:List Int)(b_2:List Int)(self:Int→Option (Bool⊕Unit))(x3:Int):Option (Bool⊕Unit):=
 bif (decide (x3<(len a_1))) then ((aI a_1 x3).bind fun e4=>(aI b_2 x3).bind fun e5=>bif (e4 != e5) then (some (.inl false)) else (self (ar (x3+1)))) else (some (.inr ()))
noncomputable def rh (a_1:List Int)(b_2:List Int): Int→Option (Bool⊕Unit):=aJ (kK a_1 b_2)
theorem wJ (a_1:List Int)(b_2:List Int): ∀a,Fin1 fun f=>kK a_1 b_2 f a:=by
 intro a
 unfold kK
 repeat first|exact aL|exact bn|refine bq ?_ ?_|refine ba ?_ (fun _=>?_)|refine aZ ?_ (fun _=>?_)|refine be ?_ (fun _=>?_)|refine bp (fun _=>?_)
theorem K9 (a_1:List Int)(b_2:List Int)(x:Int):rh a_1 b_2 x=kK a_1 b_2 (rh a_1 b_2) x:=bx (wJ a_1 b_2) x
noncomputable def xj (a_1:List Int)(b_2:List Int):Option Bool:=
 bif ((len a_1) != (len b_2)) then (some false) else (aV (ρ:=Bool) (rh a_1 b_2 0) fun u6:Unit=>some true)
noncomputable def xg (a_1:State)(b_2:State):Option Bool:=
 bif (a_1.Day != b_2.Day) then (some false) else ((ug a_1.Facts b_2.Facts).bind fun r3=>bif (!r3) then (some false) else ((yB a_1.Duties b_2.Duties).bind fun r4=>bif (!r4) then (some false) else ((xj a_1.Balances b_2.Balances).bind fun r5=>bif (!r5) then (some false) else (bif (!(a_1.Over==b_2.Over)) then (some false) else (some true)))))
noncomputable def dG (aC_1:Contract)(aS_2:State):Option Bool:=
 (yH aC_1 1048576).bind fun r3=>bif (decide (r3<0)) then (some true) else ((wW aS_2 r3).bind fun r4=>bif (decide (r4<0)) then (some true) else ((sk aC_1).bind fun r5=>(sf aS_2).bind fun r6=>(xy r5 r6).bind fun r7=>(sk aC_1).bind fun r8=>(sf aS_2).bind fun r9=>(Hl r8 r9).bind fun r10=>b6 (bif (!(r10.1==r7.1)) then true else (!(r10.2==r7.2))) fun u11:Bool=>bif u11 then (some false) else ((sk aC_1).bind fun r12=>(yD r8 r12).bind fun r13=>bif (!r13) then (some false) else ((sf aS_2).bind fun r14=>(xg r9 r14).bind fun r15=>bif (!r15) then (some false) else (some true)))))
end Go.Ln
