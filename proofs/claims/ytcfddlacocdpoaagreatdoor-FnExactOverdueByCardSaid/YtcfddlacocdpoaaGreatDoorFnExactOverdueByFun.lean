/-
  What each function computes.
-/
import Derived.Test.YtcfddlacocdpoaaGreatDoorFnExactOverdueByLnC
set_option maxHeartbeats 4000000
set_option linter.unusedVariables false
set_option linter.unusedSimpArgs false
set_option maxRecDepth 100000
namespace Go.Ln
open Go
noncomputable section
structure Condition where
 Op:Int
 Name:ae
 Day:Int
 Parts:List Condition
mutual
def aH:Condition→V
 | ⟨a0,a1,a2,a3⟩=>.agg [I a0,str a1,I a2,.isl false (dV a3)]
def dV:List Condition→List V
 | []=>[]
 | x::xs=>aH x::dV xs
end
theorem pM:∀xs,dV xs=xs.map aH
 | []=>by simp[dV]
 | x::xs=>by simp[dV,pM xs]
def bH (x:Condition):V:=.agg [I x.Op,str x.Name,I x.Day,.isl false (x.Parts.map aH)]
abbrev ar (x:Condition):V:=.agg [I x.Op,str x.Name,I x.Day,.isl false (x.Parts.map aH)]
theorem dI (x:Condition):aH x=bH x:=by cases x;simp only[aH,bH,pM]
mutual
theorem fY:∀(a b:Condition),aH a=aH b→a=b
 | ⟨a0,a1,a2,a3⟩,⟨b0,b1,b2,b3⟩,h=>by
  simp only[aH] at h
  have k0:=V.agg.inj h
  obtain⟨h0,k1⟩:=List.cons.inj k0
  obtain rfl:=bf a0 b0 h0
  obtain⟨h1,k2⟩:=List.cons.inj k1
  obtain rfl:=bP a1 b1 h1
  obtain⟨h2,k3⟩:=List.cons.inj k2
  obtain rfl:=bf a2 b2 h2
  obtain⟨h3,k4⟩:=List.cons.inj k3
  have e3:dV a3=dV b3:=by simpa using h3
  obtain rfl:=pL a3 b3 e3
  rfl
theorem pL:∀(a b:List Condition),dV a=dV b→a=b
 | [],[],_=>rfl
 | [],_::_,h=>by simp[dV] at h
 | _::_,[],h=>by simp[dV] at h
 | x::xs,y::ys,h=>by
  simp only[dV,List.cons.injEq] at h
  rw[fY x y h.1,pL xs ys h.2]
end
theorem dP (a b:Condition)(h:bH a=bH b):a=b:=fY a b (by rw[dI,dI,h])
mutual
def aj:Condition→V
 | ⟨a0,a1,a2,a3⟩=>.agg [I a0,str a1,I a2,.usl 4 (dm a3)]
def dm:List Condition→List V
 | []=>[]
 | x::xs=>aj x::dm xs
end
theorem pP:∀xs,dm xs=xs.map aj
 | []=>by simp[dm]
 | x::xs=>by simp[dm,pP xs]
def tC (x:Condition):V:=.agg [I x.Op,str x.Name,I x.Day,.usl 4 (x.Parts.map aj)]
abbrev rh (x:Condition):V:=.agg [I x.Op,str x.Name,I x.Day,.usl 4 (x.Parts.map aj)]
theorem dJ (x:Condition):aj x=tC x:=by cases x;simp only[aj,tC,pP]
mutual
theorem mm:∀(a b:Condition),aj a=aj b→a=b
 | ⟨a0,a1,a2,a3⟩,⟨b0,b1,b2,b3⟩,h=>by
  simp only[aj] at h
  have k0:=V.agg.inj h
  obtain⟨h0,k1⟩:=List.cons.inj k0
  obtain rfl:=bf a0 b0 h0
  obtain⟨h1,k2⟩:=List.cons.inj k1
  obtain rfl:=bP a1 b1 h1
  obtain⟨h2,k3⟩:=List.cons.inj k2
  obtain rfl:=bf a2 b2 h2
  obtain⟨h3,k4⟩:=List.cons.inj k3
  have e3:dm a3=dm b3:=by simpa using h3
  obtain rfl:=pO a3 b3 e3
  rfl
theorem pO:∀(a b:List Condition),dm a=dm b→a=b
 | [],[],_=>rfl
 | [],_::_,h=>by simp[dm] at h
 | _::_,[],h=>by simp[dm] at h
 | x::xs,y::ys,h=>by
  simp only[dm,List.cons.injEq] at h
  rw[mm x y h.1,pO xs ys h.2]
end
mutual
theorem qR:∀x:Condition,eM (aj x)=aH x
 | ⟨a0,a1,a2,a3⟩=>by simp[aj,aH,eM,gc,str,pN]
theorem pN:∀xs:List Condition,gc (dm xs)=dV xs
 | []=>by simp[dm,dV,gc]
 | x::xs=>by simp[dm,dV,gc,qR x,pN xs]
end
mutual
theorem xw:∀x:Condition,cS (aj x)=false
 | ⟨a0,a1,a2,a3⟩=>by simp[aj,cS,dD,str,pr]
theorem pr:∀xs:List Condition,dD (dm xs)=false
 | []=>by simp[dm,dD]
 | x::xs=>by simp[dm,dD,xw x,pr xs]
end
structure Clause where
 Id:ae
 Kind:Int
 Party:Int
 Action:ae
 Other:Int
 Amount:Int
 When:Condition
 Within:Int
 Repair:ae
def au (x:Clause):V:=.agg [str x.Id,I x.Kind,I x.Party,str x.Action,I x.Other,I x.Amount,I x.When.Op,str x.When.Name,I x.When.Day,.isl false (x.When.Parts.map aH),I x.Within,str x.Repair]
abbrev aB (x:Clause):V:=.agg [str x.Id,I x.Kind,I x.Party,str x.Action,I x.Other,I x.Amount,I x.When.Op,str x.When.Name,I x.When.Day,.isl false (x.When.Parts.map aH),I x.Within,str x.Repair]
theorem dU (a b:Clause)(h:au a=au b):a=b:=by
 obtain⟨p0,p1,p2,p3,p4,p5,⟨p6,p7,p8,p9⟩,p10,p11⟩:=a
 obtain⟨q0,q1,q2,q3,q4,q5,⟨q6,q7,q8,q9⟩,q10,q11⟩:=b
 replace h:=V.agg.inj h
 obtain⟨h0,h⟩:=List.cons.inj h
 obtain rfl:=bP p0 q0 h0
 obtain⟨h1,h⟩:=List.cons.inj h
 obtain rfl:=bf p1 q1 h1
 obtain⟨h2,h⟩:=List.cons.inj h
 obtain rfl:=bf p2 q2 h2
 obtain⟨h3,h⟩:=List.cons.inj h
 obtain rfl:=bP p3 q3 h3
 obtain⟨h4,h⟩:=List.cons.inj h
 obtain rfl:=bf p4 q4 h4
 obtain⟨h5,h⟩:=List.cons.inj h
 obtain rfl:=bf p5 q5 h5
 obtain⟨h6,h⟩:=List.cons.inj h
 obtain rfl:=bf p6 q6 h6
 obtain⟨h7,h⟩:=List.cons.inj h
 obtain rfl:=bP p7 q7 h7
 obtain⟨h8,h⟩:=List.cons.inj h
 obtain rfl:=bf p8 q8 h8
 obtain⟨h9,h⟩:=List.cons.inj h
 obtain rfl:=(cr fY) p9 q9 h9
 obtain⟨h10,h⟩:=List.cons.inj h
 obtain rfl:=bf p10 q10 h10
 obtain⟨h11,h⟩:=List.cons.inj h
 obtain rfl:=bP p11 q11 h11
 rfl
def ak (x:Clause):V:=.agg [str x.Id,I x.Kind,I x.Party,str x.Action,I x.Other,I x.Amount,I x.When.Op,str x.When.Name,I x.When.Day,.usl 4 (x.When.Parts.map aj),I x.Within,str x.Repair]
abbrev vS (x:Clause):V:=.agg [str x.Id,I x.Kind,I x.Party,str x.Action,I x.Other,I x.Amount,I x.When.Op,str x.When.Name,I x.When.Day,.usl 4 (x.When.Parts.map aj),I x.Within,str x.Repair]
theorem fP (x:Clause):eM (ak x)=au x:=agq (lc rfl (lc rfl (lc rfl (lc rfl (lc rfl (lc rfl (lc rfl (lc rfl (lc rfl (lc (abl (bT qR)) (lc rfl (lc rfl rfl))))))))))))
theorem tB (a b:Clause)(h:ak a=ak b):a=b:=by
 obtain⟨p0,p1,p2,p3,p4,p5,⟨p6,p7,p8,p9⟩,p10,p11⟩:=a
 obtain⟨q0,q1,q2,q3,q4,q5,⟨q6,q7,q8,q9⟩,q10,q11⟩:=b
 replace h:=V.agg.inj h
 obtain⟨h0,h⟩:=List.cons.inj h
 obtain rfl:=bP p0 q0 h0
 obtain⟨h1,h⟩:=List.cons.inj h
 obtain rfl:=bf p1 q1 h1
 obtain⟨h2,h⟩:=List.cons.inj h
 obtain rfl:=bf p2 q2 h2
 obtain⟨h3,h⟩:=List.cons.inj h
 obtain rfl:=bP p3 q3 h3
 obtain⟨h4,h⟩:=List.cons.inj h
 obtain rfl:=bf p4 q4 h4
 obtain⟨h5,h⟩:=List.cons.inj h
 obtain rfl:=bf p5 q5 h5
 obtain⟨h6,h⟩:=List.cons.inj h
 obtain rfl:=bf p6 q6 h6
 obtain⟨h7,h⟩:=List.cons.inj h
 obtain rfl:=bP p7 q7 h7
 obtain⟨h8,h⟩:=List.cons.inj h
 obtain rfl:=bf p8 q8 h8
 obtain⟨h9,h⟩:=List.cons.inj h
 obtain rfl:=(ft mm) p9 q9 h9
 obtain⟨h10,h⟩:=List.cons.inj h
 obtain rfl:=bf p10 q10 h10
 obtain⟨h11,h⟩:=List.cons.inj h
 obtain rfl:=bP p11 q11 h11
 rfl
structure Contract where
 Parties:List ae
 Clauses:List Clause
def aV (x:Contract):V:=.agg [.isl false (x.Parties.map str),.isl false (x.Clauses.map au)]
abbrev aa (x:Contract):V:=.agg [.isl false (x.Parties.map str),.isl false (x.Clauses.map au)]
theorem bv (a b:Contract)(h:aV a=aV b):a=b:=by
 obtain⟨p0,p1⟩:=a
 obtain⟨q0,q1⟩:=b
 replace h:=V.agg.inj h
 obtain⟨h0,h⟩:=List.cons.inj h
 obtain rfl:=(cr bP) p0 q0 h0
 obtain⟨h1,h⟩:=List.cons.inj h
 obtain rfl:=(cr dU) p1 q1 h1
 rfl
def rk (x:Contract):V:=.agg [.usl 1 (x.Parties.map str),.usl 12 (x.Clauses.map ak)]
abbrev kW (x:Contract):V:=.agg [.usl 1 (x.Parties.map str),.usl 12 (x.Clauses.map ak)]
theorem Al (a b:Contract)(h:rk a=rk b):a=b:=by
 obtain⟨p0,p1⟩:=a
 obtain⟨q0,q1⟩:=b
 replace h:=V.agg.inj h
 obtain⟨h0,h⟩:=List.cons.inj h
 obtain rfl:=(ft bP) p0 q0 h0
 obtain⟨h1,h⟩:=List.cons.inj h
 obtain rfl:=(ft tB) p1 q1 h1
 rfl
structure Duty where
 Clause:Int
 Since:Int
 Due:Int
 Status:Int
def ah (x:Duty):V:=.agg [I x.Clause,I x.Since,I x.Due,I x.Status]
abbrev afB (x:Duty):V:=.agg [I x.Clause,I x.Since,I x.Due,I x.Status]
theorem JQ (x:Duty):(cells (ah x)).length=4∧(cells (ah x)).all fE=true:=⟨rfl,rfl⟩
theorem gK (x:Duty):eM (ah x)=ah x:=rfl
theorem eh (a b:Duty)(h:ah a=ah b):a=b:=by
 obtain⟨p0,p1,p2,p3⟩:=a
 obtain⟨q0,q1,q2,q3⟩:=b
 replace h:=V.agg.inj h
 obtain⟨h0,h⟩:=List.cons.inj h
 obtain rfl:=bf p0 q0 h0
 obtain⟨h1,h⟩:=List.cons.inj h
 obtain rfl:=bf p1 q1 h1
 obtain⟨h2,h⟩:=List.cons.inj h
 obtain rfl:=bf p2 q2 h2
 obtain⟨h3,h⟩:=List.cons.inj h
 obtain rfl:=bf p3 q3 h3
 rfl
structure State where
 Day:Int
 Facts:List ae
 Duties:List Duty
 Balances:List Int
 Over:Bool
def bN (x:State):V:=.agg [I x.Day,.isl false (x.Facts.map str),.isl false (x.Duties.map ah),.isl false (x.Balances.map I),B x.Over]
abbrev ai (x:State):V:=.agg [I x.Day,.isl false (x.Facts.map str),.isl false (x.Duties.map ah),.isl false (x.Balances.map I),B x.Over]
theorem cw (a b:State)(h:bN a=bN b):a=b:=by
 obtain⟨p0,p1,p2,p3,p4⟩:=a
 obtain⟨q0,q1,q2,q3,q4⟩:=b
 replace h:=V.agg.inj h
 obtain⟨h0,h⟩:=List.cons.inj h
 obtain rfl:=bf p0 q0 h0
 obtain⟨h1,h⟩:=List.cons.inj h
 obtain rfl:=(cr bP) p1 q1 h1
 obtain⟨h2,h⟩:=List.cons.inj h
 obtain rfl:=(cr eh) p2 q2 h2
 obtain⟨h3,h⟩:=List.cons.inj h
 obtain rfl:=(cr bf) p3 q3 h3
 obtain⟨h4,h⟩:=List.cons.inj h
 obtain rfl:=aaQ p4 q4 h4
 rfl
def wF (x:State):V:=.agg [I x.Day,.usl 1 (x.Facts.map str),.usl 4 (x.Duties.map ah),.usl 1 (x.Balances.map I),B x.Over]
abbrev nI (x:State):V:=.agg [I x.Day,.usl 1 (x.Facts.map str),.usl 4 (x.Duties.map ah),.usl 1 (x.Balances.map I),B x.Over]
theorem JP (a b:State)(h:wF a=wF b):a=b:=by
 obtain⟨p0,p1,p2,p3,p4⟩:=a
 obtain⟨q0,q1,q2,q3,q4⟩:=b
 replace h:=V.agg.inj h
 obtain⟨h0,h⟩:=List.cons.inj h
 obtain rfl:=bf p0 q0 h0
 obtain⟨h1,h⟩:=List.cons.inj h
 obtain rfl:=(ft bP) p1 q1 h1
 obtain⟨h2,h⟩:=List.cons.inj h
 obtain rfl:=(ft eh) p2 q2 h2
 obtain⟨h3,h⟩:=List.cons.inj h
 obtain rfl:=(ft bf) p3 q3 h3
 obtain⟨h4,h⟩:=List.cons.inj h
 obtain rfl:=aaQ p4 q4 h4
 rfl
mutual
def pS:Condition→Prop
 | ⟨a0,a1,a2,a3⟩=>pk a0∧IE a1∧pk a2∧(a3.length≤maxLen∧MR a3)
def MR:List Condition→Prop
 | []=>True
 | x::xs=>pS x∧MR xs
end
theorem MS:∀xs,MR xs↔∀x∈xs,pS x
 | []=>by simp[MR]
 | x::xs=>by simp[MR,MS xs]
theorem MQ (x:Condition):pS x↔pk x.Op∧IE x.Name∧pk x.Day∧tI pS x.Parts:=by cases x;simp only[pS,MS,tI]
def tJ (x:Clause):Prop:=IE x.Id∧pk x.Kind∧pk x.Party∧IE x.Action∧pk x.Other∧pk x.Amount∧pS x.When∧pk x.Within∧IE x.Repair
def YE (x:Contract):Prop:=(tI IE) x.Parties∧(tI tJ) x.Clauses
def JY (x:Duty):Prop:=pk x.Clause∧pk x.Since∧pk x.Due∧pk x.Status
def D9 (x:State):Prop:=pk x.Day∧(tI IE) x.Facts∧(tI JY) x.Duties∧(tI pk) x.Balances∧okB x.Over
def oe (a_1:List ae)(aw:Int)(self:(Int×Int)→Option (Int⊕Int))(x3:Int×Int):Option (Int⊕Int):=
 bif (decide (x3.2<(len a_1))) then ((aE a_1 x3.2).bind fun e4=>bif (decide ((ac (x3.1 - (len e4)))<0)) then (some (.inl (-1))) else (self ((ac (x3.1 - (len e4))),(ac (x3.2+1))))) else (some (.inr x3.1))
def uK (a_1:List ae)(aw:Int): (Int×Int)→Option (Int⊕Int):=aJ (oe a_1 aw)
theorem AF (a_1:List ae)(aw:Int): ∀a,Fin1 fun f=>oe a_1 aw f a:=by
 unfold oe
 repeat first|intro _|exact aR|exact bq|apply br|apply bb|apply bc|apply bh|apply bu
theorem Rk (a_1:List ae)(aw:Int)(x:Int×Int):uK a_1 aw x=oe a_1 aw (uK a_1 aw) x:=bA (AF a_1 aw) x
def xQ (a_1:List ae)(aw:Int):Option Int:=
 bif (decide ((ac (aw - (len a_1)))<0)) then (some (-1)) else (bd (ρ:=Int) (uK a_1 aw ((ac (aw - (len a_1))),0)) fun u5:Int=>some u5)
def lU (bE:(Condition×Int)→Option Int)(a_1:List Condition)(aw:Int)(self:(Int×Int)→Option (Int⊕Int))(x3:Int×Int):Option (Int⊕Int):=
 bif (decide (x3.2<(len a_1))) then ((aE a_1 x3.2).bind fun e4=>(bE (e4,x3.1)).bind fun r5=>bif (decide (r5<0)) then (some (.inl (-1))) else (self (r5,(ac (x3.2+1))))) else (some (.inr x3.1))
def rR (bE:(Condition×Int)→Option Int)(a_1:List Condition)(aw:Int): (Int×Int)→Option (Int⊕Int):=aJ (lU bE a_1 aw)
theorem AE (bE:(Condition×Int)→Option Int)(a_1:List Condition)(aw:Int): ∀a,Fin1 fun f=>lU bE a_1 aw f a:=by
 unfold lU
 repeat first|intro _|exact aR|exact bq|apply br|apply bb|apply bc|apply bh|apply bu
theorem Rj (bE:(Condition×Int)→Option Int)(a_1:List Condition)(aw:Int)(x:Int×Int):rR bE a_1 aw x=lU bE a_1 aw (rR bE a_1 aw) x:=bA (AE bE a_1 aw) x
def xP (bE:(Condition×Int)→Option Int)(a_1:List Condition)(aw:Int):Option Int:=
 bif (decide ((ac (aw - (len a_1)))<0)) then (some (-1)) else (bd (ρ:=Int) (rR bE a_1 aw ((ac (aw - (len a_1))),0)) fun u6:Int=>some u6)
def uJ (bE:(Condition×Int)→Option Int)(a_1:Condition)(aw:Int):Option Int:=
 bif (decide ((ac (aw - (len a_1.Name)))<0)) then (some (-1)) else ((xP bE a_1.Parts (ac (aw - (len a_1.Name)))).bind fun r3=>bif (decide (r3<0)) then (some (-1)) else (some r3))
def qI (bE:(Condition×Int)→Option Int)(x:Condition×Int):Option Int:=uJ bE x.1 x.2
def xM (a_1:Condition)(aw:Int):Option Int:=aJ qI (a_1,aw)
theorem Yl:∀x,Fin1 fun bE=>qI bE x:=by
 unfold qI uJ
 repeat first|intro _|exact aR|exact bq|exact jm|exact lw|exact iM|exact jI|exact i8|exact i9|apply br|apply bb|apply bc|apply bh|apply bu|apply qy|unfold xP|unfold rR|unfold lU
theorem aby (a_1:Condition)(aw:Int):xM a_1 aw=uJ (aJ qI) a_1 aw:=bA Yl (a_1,aw)
def vZ (a_1:Clause)(aw:Int):Option Int:=
 bif (decide ((ac (aw - (len a_1.Id)))<0)) then (some (-1)) else (bif (decide ((ac ((ac (aw - (len a_1.Id))) - (len a_1.Action)))<0)) then (some (-1)) else ((xM a_1.When (ac ((ac (aw - (len a_1.Id))) - (len a_1.Action)))).bind fun r3=>bif (decide (r3<0)) then (some (-1)) else (bif (decide ((ac (r3 - (len a_1.Repair)))<0)) then (some (-1)) else (some (ac (r3 - (len a_1.Repair)))))))
def od (a_1:List Clause)(aw:Int)(self:(Int×Int)→Option (Int⊕Int))(x3:Int×Int):Option (Int⊕Int):=
 bif (decide (x3.2<(len a_1))) then ((aE a_1 x3.2).bind fun e4=>(vZ e4 x3.1).bind fun r5=>bif (decide (r5<0)) then (some (.inl (-1))) else (self (r5,(ac (x3.2+1))))) else (some (.inr x3.1))
def uI (a_1:List Clause)(aw:Int): (Int×Int)→Option (Int⊕Int):=aJ (od a_1 aw)
theorem AD (a_1:List Clause)(aw:Int): ∀a,Fin1 fun f=>od a_1 aw f a:=by
 unfold od
 repeat first|intro _|exact aR|exact bq|apply br|apply bb|apply bc|apply bh|apply bu
theorem Ri (a_1:List Clause)(aw:Int)(x:Int×Int):uI a_1 aw x=od a_1 aw (uI a_1 aw) x:=bA (AD a_1 aw) x
def Cy (a_1:List Clause)(aw:Int):Option Int:=
 bif (decide ((ac (aw - (len a_1)))<0)) then (some (-1)) else (bd (ρ:=Int) (uI a_1 aw ((ac (aw - (len a_1))),0)) fun u6:Int=>some u6)
def CC (a_1:Contract)(aw:Int):Option Int:=
 (xQ a_1.Parties aw).bind fun r3=>bif (decide (r3<0)) then (some (-1)) else ((Cy a_1.Clauses r3).bind fun r4=>bif (decide (r4<0)) then (some (-1)) else (some r4))
def CE (a_1:List Duty)(aw:Int):Option Int:=
 bif (decide ((ac (aw - (len a_1)))<0)) then (some (-1)) else (some (ac (aw - (len a_1))))
def CG (a_1:List Int)(aw:Int):Option Int:=
 bif (decide ((ac (aw - (len a_1)))<0)) then (some (-1)) else (some (ac (aw - (len a_1))))
def CI (a_1:State)(aw:Int):Option Int:=
 (xQ a_1.Facts aw).bind fun r3=>bif (decide (r3<0)) then (some (-1)) else ((CE a_1.Duties r3).bind fun r4=>bif (decide (r4<0)) then (some (-1)) else ((CG a_1.Balances r4).bind fun r5=>bif (decide (r5<0)) then (some (-1)) else (some r5)))
def oo (a_1:List ae)(self:(Int×(List ae))→Option ((List ae)⊕(List ae)))(x3:Int×(List ae)):Option ((List ae)⊕(List ae)):=
 bif (decide (x3.1<(len a_1))) then ((aE a_1 x3.1).bind fun e4=>(aE x3.2 x3.1).bind fun e5=>self ((ac (x3.1+1)),(bI x3.2 x3.1 e4))) else (some (.inr x3.2))
def uQ (a_1:List ae): (Int×(List ae))→Option ((List ae)⊕(List ae)):=aJ (oo a_1)
theorem AK (a_1:List ae): ∀a,Fin1 fun f=>oo a_1 f a:=by
 unfold oo
 repeat first|intro _|exact aR|exact bq|apply br|apply bb|apply bc|apply bh|apply bu
theorem Rp (a_1:List ae)(x:Int×(List ae)):uQ a_1 x=oo a_1 (uQ a_1) x:=bA (AK a_1) x
def xW (a_1:List ae):Option (List ae):=
 (tF 16 [] (len a_1)).bind fun m2=>bd (ρ:=(List ae)) (uQ a_1 (0,m2)) fun u6:(List ae)=>some u6
def lV (bF:Condition→Option Condition)(a_1:List Condition)(self:(Int×(List Condition))→Option ((List Condition)⊕(List Condition)))(x3:Int×(List Condition)):Option ((List Condition)⊕(List Condition)):=
 bif (decide (x3.1<(len a_1))) then ((aE a_1 x3.1).bind fun e4=>(bF e4).bind fun r5=>(aE x3.2 x3.1).bind fun e6=>self ((ac (x3.1+1)),(bI x3.2 x3.1 r5))) else (some (.inr x3.2))
def rS (bF:Condition→Option Condition)(a_1:List Condition): (Int×(List Condition))→Option ((List Condition)⊕(List Condition)):=aJ (lV bF a_1)
theorem AH (bF:Condition→Option Condition)(a_1:List Condition): ∀a,Fin1 fun f=>lV bF a_1 f a:=by
 unfold lV
 repeat first|intro _|exact aR|exact bq|apply br|apply bb|apply bc|apply bh|apply bu
theorem Rm (bF:Condition→Option Condition)(a_1:List Condition)(x:Int×(List Condition)):rS bF a_1 x=lV bF a_1 (rS bF a_1) x:=bA (AH bF a_1) x
def xU (bF:Condition→Option Condition)(a_1:List Condition):Option (List Condition):=
 (tF 56 (Condition.mk 0 [] 0 []) (len a_1)).bind fun m2=>bd (ρ:=(List Condition)) (rS bF a_1 (0,m2)) fun u7:(List Condition)=>some u7
def uM (bF:Condition→Option Condition)(a_1:Condition):Option Condition:=
 (xU bF a_1.Parts).bind fun r2=>some (Condition.mk a_1.Op a_1.Name a_1.Day r2)
def qJ (bF:Condition→Option Condition)(x:Condition):Option Condition:=uM bF x
def CN (a_1:Condition):Option Condition:=aJ qJ a_1
theorem Yv:∀x,Fin1 fun bF=>qJ bF x:=by
 unfold qJ uM
 repeat first|intro _|exact aR|exact bq|exact jm|exact lw|exact iM|exact jI|exact i8|exact i9|apply br|apply bb|apply bc|apply bh|apply bu|apply qy|unfold xU|unfold rS|unfold lV
theorem abz (a_1:Condition):CN a_1=uM (aJ qJ) a_1:=bA Yv a_1
def xR (a_1:Clause):Option Clause:=
 (CN a_1.When).bind fun r2=>some (Clause.mk a_1.Id a_1.Kind a_1.Party a_1.Action a_1.Other a_1.Amount r2 a_1.Within a_1.Repair)
def oh (a_1:List Clause)(self:(Int×(List Clause))→Option ((List Clause)⊕(List Clause)))(x3:Int×(List Clause)):Option ((List Clause)⊕(List Clause)):=
 bif (decide (x3.1<(len a_1))) then ((aE a_1 x3.1).bind fun e4=>(xR e4).bind fun r5=>(aE x3.2 x3.1).bind fun e6=>self ((ac (x3.1+1)),(bI x3.2 x3.1 r5))) else (some (.inr x3.2))
def uL (a_1:List Clause): (Int×(List Clause))→Option ((List Clause)⊕(List Clause)):=aJ (oh a_1)
theorem AG (a_1:List Clause): ∀a,Fin1 fun f=>oh a_1 f a:=by
 unfold oh
 repeat first|intro _|exact aR|exact bq|apply br|apply bb|apply bc|apply bh|apply bu
theorem Rl (a_1:List Clause)(x:Int×(List Clause)):uL a_1 x=oh a_1 (uL a_1) x:=bA (AG a_1) x
def CL (a_1:List Clause):Option (List Clause):=
 (tF 144 (Clause.mk [] 0 0 [] 0 0 (Condition.mk 0 [] 0 []) 0 []) (len a_1)).bind fun m2=>bd (ρ:=(List Clause)) (uL a_1 (0,m2)) fun u7:(List Clause)=>some u7
def tT (a_1:Contract):Option Contract:=
 (xW a_1.Parties).bind fun r2=>(CL a_1.Clauses).bind fun r3=>some (Contract.mk r2 r3)
def xV (a_1:Duty):Option Duty:=
 some a_1
def ol (a_1:List Duty)(self:(Int×(List Duty))→Option ((List Duty)⊕(List Duty)))(x3:Int×(List Duty)):Option ((List Duty)⊕(List Duty)):=
 bif (decide (x3.1<(len a_1))) then ((aE a_1 x3.1).bind fun e4=>(xV e4).bind fun r5=>(aE x3.2 x3.1).bind fun e6=>self ((ac (x3.1+1)),(bI x3.2 x3.1 r5))) else (some (.inr x3.2))
def uN (a_1:List Duty): (Int×(List Duty))→Option ((List Duty)⊕(List Duty)):=aJ (ol a_1)
theorem AI (a_1:List Duty): ∀a,Fin1 fun f=>ol a_1 f a:=by
 unfold ol
 repeat first|intro _|exact aR|exact bq|apply br|apply bb|apply bc|apply bh|apply bu
theorem Rn (a_1:List Duty)(x:Int×(List Duty)):uN a_1 x=ol a_1 (uN a_1) x:=bA (AI a_1) x
def CS (a_1:List Duty):Option (List Duty):=
 (tF 32 (Duty.mk 0 0 0 0) (len a_1)).bind fun m2=>bd (ρ:=(List Duty)) (uN a_1 (0,m2)) fun u7:(List Duty)=>some u7
def om (a_1:List Int)(self:(Int×(List Int))→Option ((List Int)⊕(List Int)))(x3:Int×(List Int)):Option ((List Int)⊕(List Int)):=
 bif (decide (x3.1<(len a_1))) then ((aE a_1 x3.1).bind fun e4=>(aE x3.2 x3.1).bind fun e5=>self ((ac (x3.1+1)),(bI x3.2 x3.1 e4))) else (some (.inr x3.2))
def uO (a_1:List Int): (Int×(List Int))→Option ((List Int)⊕(List Int)):=aJ (om a_1)
theorem AJ (a_1:List Int): ∀a,Fin1 fun f=>om a_1 f a:=by
 unfold om
 repeat first|intro _|exact aR|exact bq|apply br|apply bb|apply bc|apply bh|apply bu
theorem Ro (a_1:List Int)(x:Int×(List Int)):uO a_1 x=om a_1 (uO a_1) x:=bA (AJ a_1) x
def CU (a_1:List Int):Option (List Int):=
 (tF 8 0 (len a_1)).bind fun m2=>bd (ρ:=(List Int)) (uO a_1 (0,m2)) fun u6:(List Int)=>some u6
def tU (a_1:State):Option State:=
 (xW a_1.Facts).bind fun r2=>(CS a_1.Duties).bind fun r3=>(CU a_1.Balances).bind fun r4=>some (State.mk a_1.Day r2 r3 r4 a_1.Over)
def eN (x_1:Int)(a_2:Int)(b_3:Int):Option Bool:=
 bU (bif (decide (x_1≥a_2)) then (decide (x_1≤b_3)) else false) fun u4:Bool=>some u4
def yy (b_1:Int):Option Bool:=
 bU (bif (decide (b_1≥97)) then (bU (bif (decide (b_1≤122)) then true else (bU (bif (decide (b_1≥48)) then (decide (b_1≤57)) else false) fun u4:Bool=>u4)) fun u3:Bool=>u3) else (bU (bif (decide (b_1≥48)) then (decide (b_1≤57)) else false) fun u5:Bool=>u5)) fun u2:Bool=>some u2
def oG (s_1:ae)(self:Int→Option (Bool⊕Unit))(x4:Int):Option (Bool⊕Unit):=
 bif (decide (x4<(len s_1))) then ((aE s_1 x4).bind fun c5=>(yy (c5.toNat:Int)).bind fun r6=>bif (!r6) then (some (.inl false)) else (self (ac (x4+1)))) else (some (.inr ()))
def vh (s_1:ae): Int→Option (Bool⊕Unit):=aJ (oG s_1)
theorem Bj (s_1:ae): ∀a,Fin1 fun f=>oG s_1 f a:=by
 unfold oG
 repeat first|intro _|exact aR|exact bq|apply br|apply bb|apply bc|apply bh|apply bu
theorem RB (s_1:ae)(x:Int):vh s_1 x=oG s_1 (vh s_1) x:=bA (Bj s_1) x
def su (s_1:ae):Option Bool:=
 (eN (len s_1) 1 8).bind fun r2=>bd (ρ:=Bool) (bif (!r2) then (some (.inr true)) else ((aE s_1 0).bind fun c16=>cj (ρ:=Bool) (bif (decide ((c16.toNat:Int)<97)) then (some (.inr true)) else ((aE s_1 0).bind fun c18=>some (.inr (decide ((c18.toNat:Int)>122))))) fun u17:Bool=>some (.inr u17))) fun u3:Bool=>bif u3 then (some false) else (bd (ρ:=Bool) (vh s_1 0) fun u7:Unit=>bU (bif (s_1==([116,114,117,101]:ae)) then (s_1==([116,114,117,101]:ae)) else (bU (bif (s_1==([102,114,111,109]:ae)) then (s_1==([102,114,111,109]:ae)) else (bU (bif (s_1==([110,111,116]:ae)) then (s_1==([110,111,116]:ae)) else (bU (bif (s_1==([97,110,100]:ae)) then (s_1==([97,110,100]:ae)) else (bU (bif (s_1==([111,114]:ae)) then (s_1==([111,114]:ae)) else (bU (bif (s_1==([98,111,116,104]:ae)) then (s_1==([98,111,116,104]:ae)) else (bU (bif (s_1==([101,105,116,104,101,114]:ae)) then (s_1==([101,105,116,104,101,114]:ae)) else (bU (bif (s_1==([105,116]:ae)) then (s_1==([105,116]:ae)) else (s_1==([105,110]:ae))) fun u15:Bool=>u15)) fun u14:Bool=>u14)) fun u13:Bool=>u13)) fun u12:Bool=>u12)) fun u11:Bool=>u11)) fun u10:Bool=>u10)) fun u9:Bool=>u9)) fun u8:Bool=>bif u8 then (some false) else (some true))
def oC (az:List ae)(fp:ae)(self:Int→Option (Bool⊕Unit))(x3:Int):Option (Bool⊕Unit):=
 bif (decide (x3<(len az))) then ((aE az x3).bind fun e4=>bif (e4==fp) then (some (.inl true)) else (self (ac (x3+1)))) else (some (.inr ()))
def vg (az:List ae)(fp:ae): Int→Option (Bool⊕Unit):=aJ (oC az fp)
theorem Bi (az:List ae)(fp:ae): ∀a,Fin1 fun f=>oC az fp f a:=by
 unfold oC
 repeat first|intro _|exact aR|exact bq|apply br|apply bb|apply bc|apply bh|apply bu
theorem RA (az:List ae)(fp:ae)(x:Int):vg az fp x=oC az fp (vg az fp) x:=bA (Bi az fp) x
def wl (az:List ae)(fp:ae):Option Bool:=
 bd (ρ:=Bool) (vg az fp 0) fun u5:Unit=>some false
def me (c_1:Contract)(self:Int→Option (Bool⊕Unit))(x2:Int):Option (Bool⊕Unit):=
 bif (decide (x2<(len c_1.Parties))) then ((aE c_1.Parties x2).bind fun e3=>(su e3).bind fun r4=>cj (ρ:=Bool) (bif (!r4) then (some (.inr true)) else ((lD c_1.Parties 0 x2).bind fun s6=>(aE c_1.Parties x2).bind fun e7=>(wl s6 e7).bind fun r8=>some (.inr r8))) fun u5:Bool=>bif u5 then (some (.inl false)) else (self (ac (x2+1)))) else (some (.inr ()))
def vr (c_1:Contract): Int→Option (Bool⊕Unit):=aJ (me c_1)
theorem Br (c_1:Contract): ∀a,Fin1 fun f=>me c_1 f a:=by
 unfold me
 repeat first|intro _|exact aR|exact bq|apply br|apply bb|apply bc|apply bh|apply bu
theorem Hv (c_1:Contract)(x:Int):vr c_1 x=me c_1 (vr c_1) x:=bA (Br c_1) x
def yF (c_1:Contract):Option Bool:=
 bd (ρ:=Bool) (vr c_1 0) fun u9:Unit=>(eN (len c_1.Parties) 2 4).bind fun r10=>some r10
def oJ (c_1:Contract)(fC:ae)(self:Int→Option (Int⊕Unit))(x3:Int):Option (Int⊕Unit):=
 bif (decide (x3<(len c_1.Clauses))) then ((aE c_1.Clauses x3).bind fun e4=>bif (e4.Id==fC) then (some (.inl x3)) else (self (ac (x3+1)))) else (some (.inr ()))
def vp (c_1:Contract)(fC:ae): Int→Option (Int⊕Unit):=aJ (oJ c_1 fC)
theorem Bo (c_1:Contract)(fC:ae): ∀a,Fin1 fun f=>oJ c_1 fC f a:=by
 unfold oJ
 repeat first|intro _|exact aR|exact bq|apply br|apply bb|apply bc|apply bh|apply bu
theorem RE (c_1:Contract)(fC:ae)(x:Int):vp c_1 fC x=oJ c_1 fC (vp c_1 fC) x:=bA (Bo c_1 fC) x
def wq (c_1:Contract)(fC:ae):Option Int:=
 bd (ρ:=Int) (vp c_1 fC 0) fun u5:Unit=>some (-1)
def pW (iq:Int):Option Bool:=
 (eN iq 0 36524).bind fun r2=>some r2
def Ds (c_1:Condition):Option Bool:=
 bif (c_1.Op==1) then (bU (bif ((len c_1.Parts)==0) then (bU (bif (c_1.Name==([]:ae)) then (c_1.Day==0) else false) fun u3:Bool=>u3) else false) fun u2:Bool=>some u2) else (bif (c_1.Op==2) then (bd (ρ:=Bool) (bif ((len c_1.Parts)==0) then ((su c_1.Name).bind fun r5=>bU (bif r5 then (c_1.Day==0) else false) fun u6:Bool=>some (.inr u6)) else (some (.inr false))) fun u4:Bool=>some u4) else (bif (c_1.Op==3) then (bd (ρ:=Bool) (bif ((len c_1.Parts)==0) then (cj (ρ:=Bool) (bif (c_1.Name==([]:ae)) then ((pW c_1.Day).bind fun r9=>some (.inr r9)) else (some (.inr false))) fun u8:Bool=>some (.inr u8)) else (some (.inr false))) fun u7:Bool=>some u7) else (bif (c_1.Op==4) then (bU (bif ((len c_1.Parts)==1) then (bU (bif (c_1.Name==([]:ae)) then (c_1.Day==0) else false) fun u11:Bool=>u11) else false) fun u10:Bool=>some u10) else (bU (bif (c_1.Op==5) then (c_1.Op==5) else (c_1.Op==6)) fun u12:Bool=>bif u12 then (bU (bif ((len c_1.Parts)==2) then (bU (bif (c_1.Name==([]:ae)) then (c_1.Day==0) else false) fun u14:Bool=>u14) else false) fun u13:Bool=>some u13) else (some false)))))
def l7 (cG:Condition→Option Bool)(c_1:Condition)(self:Int→Option (Bool⊕Unit))(x3:Int):Option (Bool⊕Unit):=
 bif (decide (x3<(len c_1.Parts))) then ((aE c_1.Parts x3).bind fun e4=>(cG e4).bind fun r5=>bif (!r5) then (some (.inl false)) else (self (ac (x3+1)))) else (some (.inr ()))
def rY (cG:Condition→Option Bool)(c_1:Condition): Int→Option (Bool⊕Unit):=aJ (l7 cG c_1)
theorem Bh (cG:Condition→Option Bool)(c_1:Condition): ∀a,Fin1 fun f=>l7 cG c_1 f a:=by
 unfold l7
 repeat first|intro _|exact aR|exact bq|apply br|apply bb|apply bc|apply bh|apply bu
theorem Rz (cG:Condition→Option Bool)(c_1:Condition)(x:Int):rY cG c_1 x=l7 cG c_1 (rY cG c_1) x:=bA (Bh cG c_1) x
def vf (cG:Condition→Option Bool)(c_1:Condition):Option Bool:=
 (Ds c_1).bind fun r2=>bif (!r2) then (some false) else (bd (ρ:=Bool) (rY cG c_1 0) fun u6:Unit=>some true)
def ss (cG:Condition→Option Bool)(x:Condition):Option Bool:=vf cG x
def Jo (c_1:Condition):Option Bool:=aJ ss c_1
theorem Y7:∀x,Fin1 fun cG=>ss cG x:=by
 unfold ss vf
 repeat first|intro _|exact aR|exact bq|exact jm|exact lw|exact iM|exact jI|exact i8|exact i9|apply br|apply bb|apply bc|apply bh|apply bu|apply qy|unfold rY|unfold l7
theorem abF (c_1:Condition):Jo c_1=vf (aJ ss) c_1:=bA Y7 c_1
def kB (cI:Condition→Option Int)(c_1:Condition)(self:(Int×Int)→Option (Int⊕Int))(x2:Int×Int):Option (Int⊕Int):=
 bif (decide (x2.2<(len c_1.Parts))) then ((aE c_1.Parts x2.2).bind fun e3=>(cI e3).bind fun r4=>self ((ac (x2.1+r4)),(ac (x2.2+1)))) else (some (.inr x2.1))
def mN (cI:Condition→Option Int)(c_1:Condition): (Int×Int)→Option (Int⊕Int):=aJ (kB cI c_1)
theorem Bm (cI:Condition→Option Int)(c_1:Condition): ∀a,Fin1 fun f=>kB cI c_1 f a:=by
 unfold kB
 repeat first|intro _|exact aR|exact bq|apply br|apply bb|apply bc|apply bh|apply bu
theorem He (cI:Condition→Option Int)(c_1:Condition)(x:Int×Int):mN cI c_1 x=kB cI c_1 (mN cI c_1) x:=bA (Bm cI c_1) x
def vm (cI:Condition→Option Int)(c_1:Condition):Option Int:=
 bd (ρ:=Int) (mN cI c_1 (1,0)) fun u5:Int=>some u5
def ma (cI:Condition→Option Int)(x:Condition):Option Int:=vm cI x
def Nj (c_1:Condition):Option Int:=aJ ma c_1
theorem Zg:∀x,Fin1 fun cI=>ma cI x:=by
 unfold ma vm
 repeat first|intro _|exact aR|exact bq|exact jm|exact lw|exact iM|exact jI|exact i8|exact i9|apply br|apply bb|apply bc|apply bh|apply bu|apply qy|unfold mN|unfold kB
theorem abI (c_1:Condition):Nj c_1=vm (aJ ma) c_1:=bA Zg c_1
def Dv (c_1:Condition):Option Bool:=
 (Jo c_1).bind fun r2=>bd (ρ:=Bool) (bif r2 then ((Nj c_1).bind fun r4=>some (.inr (decide (r4≤15)))) else (some (.inr false))) fun u3:Bool=>some u3
def DA (c_1:Contract)(i_2:Int):Option Bool:=
 (aE c_1.Clauses i_2).bind fun e3=>(su e3.Id).bind fun r4=>bd (ρ:=Bool) (bif (!r4) then (some (.inr true)) else ((su e3.Action).bind fun r17=>cj (ρ:=Bool) (bif (!r17) then (some (.inr true)) else ((eN e3.Kind 1 4).bind fun r19=>cj (ρ:=Bool) (bif (!r19) then (some (.inr true)) else ((eN e3.Party 0 (ac ((len c_1.Parties) - 1))).bind fun r21=>cj (ρ:=Bool) (bif (!r21) then (some (.inr true)) else ((eN e3.Other 0 (ac ((len c_1.Parties) - 1))).bind fun r23=>cj (ρ:=Bool) (bif (!r23) then (some (.inr true)) else (cj (ρ:=Bool) (bif (e3.Party==e3.Other) then (some (.inr true)) else ((Dv e3.When).bind fun r26=>some (.inr (!r26)))) fun u25:Bool=>some (.inr u25))) fun u24:Bool=>some (.inr u24))) fun u22:Bool=>some (.inr u22))) fun u20:Bool=>some (.inr u20))) fun u18:Bool=>some (.inr u18))) fun u5:Bool=>bif u5 then (some false) else ((eN e3.Amount 0 1000000).bind fun r6=>bd (ρ:=Bool) (bif (!r6) then (some (.inr true)) else ((eN e3.Within 0 400).bind fun r13=>bU (bif (!r13) then true else (bU (bif (e3.Kind != 1) then (bU (bif (e3.Amount != 0) then true else (e3.Within != 0)) fun u16:Bool=>u16) else false) fun u15:Bool=>u15)) fun u14:Bool=>some (.inr u14))) fun u7:Bool=>bif u7 then (some false) else (bif (e3.Repair==([]:ae)) then (some true) else ((wq c_1 e3.Repair).bind fun r8=>bd (ρ:=Bool) (bif (decide (r8≥0)) then (cj (ρ:=Bool) (bif (r8 != i_2) then ((aE c_1.Clauses r8).bind fun e11=>bU (bif (e11.Kind==1) then (e3.Kind != 3) else false) fun u12:Bool=>some (.inr u12)) else (some (.inr false))) fun u10:Bool=>some (.inr u10)) else (some (.inr false))) fun u9:Bool=>some u9)))
def l9 (l_8:List ae)(s_9:ae)(self:Int→Option ((List ae)⊕(ae×Int×(List ae))))(x3:Int):Option ((List ae)⊕(ae×Int×(List ae))):=
 cj (ρ:=(List ae)) (bif (decide (x3<(len l_8))) then ((aE l_8 x3).bind fun e5=>some (.inr (Op.bytesLess e5 s_9))) else (some (.inr false))) fun u4:Bool=>bif u4 then (self (ac (x3+1))) else (some (.inr (s_9,x3,l_8)))
def vk (l_8:List ae)(s_9:ae): Int→Option ((List ae)⊕(ae×Int×(List ae))):=aJ (l9 l_8 s_9)
theorem Bl (l_8:List ae)(s_9:ae): ∀a,Fin1 fun f=>l9 l_8 s_9 f a:=by
 unfold l9
 repeat first|intro _|exact aR|exact bq|apply br|apply bb|apply bc|apply bh|apply bu
theorem Hb (l_8:List ae)(s_9:ae)(x:Int):vk l_8 s_9 x=l9 l_8 s_9 (vk l_8 s_9) x:=bA (Bl l_8 s_9) x
def yw (l_8:List ae)(s_9:ae):Option (List ae):=
 bd (ρ:=(List ae)) (vk l_8 s_9 0) fun u6:ae×Int×(List ae)=>bd (ρ:=(List ae)) (bif (decide (u6.2.1<(len u6.2.2))) then ((aE u6.2.2 u6.2.1).bind fun e15=>some (.inr (e15==u6.1))) else (some (.inr false))) fun u7:Bool=>bif u7 then (some u6.2.2) else ((jS u6.2.2.length 0 u6.2.1).bind fun s8=>(jT u6.2.2 (0+Int.toNat (0)) (Int.toNat u6.2.1 - Int.toNat (0))).bind fun p9=>(iX 16 ([]:List ae) p9).bind fun a10=>(iX 16 a10 [u6.1]).bind fun a11=>(jS u6.2.2.length u6.2.1 (len u6.2.2)).bind fun s12=>(jT u6.2.2 (0+Int.toNat u6.2.1) (Int.toNat (len u6.2.2) - Int.toNat u6.2.1)).bind fun p13=>(iX 16 a11 p13).bind fun a14=>some a14)
def kA (cH:((List ae)×Condition)→Option (List ae))(l_4:List ae)(c_5:Condition)(self:(Int×(List ae))→Option ((List ae)⊕(List ae)))(x4:Int×(List ae)):Option ((List ae)⊕(List ae)):=
 bif (decide (x4.1<(len c_5.Parts))) then ((aE c_5.Parts x4.1).bind fun e5=>(cH (x4.2,e5)).bind fun r6=>self ((ac (x4.1+1)),r6)) else (some (.inr x4.2))
def mM (cH:((List ae)×Condition)→Option (List ae))(l_4:List ae)(c_5:Condition): (Int×(List ae))→Option ((List ae)⊕(List ae)):=aJ (kA cH l_4 c_5)
theorem Bk (cH:((List ae)×Condition)→Option (List ae))(l_4:List ae)(c_5:Condition): ∀a,Fin1 fun f=>kA cH l_4 c_5 f a:=by
 unfold kA
 repeat first|intro _|exact aR|exact bq|apply br|apply bb|apply bc|apply bh|apply bu
theorem G4 (cH:((List ae)×Condition)→Option (List ae))(l_4:List ae)(c_5:Condition)(x:Int×(List ae)):mM cH l_4 c_5 x=kA cH l_4 c_5 (mM cH l_4 c_5) x:=bA (Bk cH l_4 c_5) x
def vi (cH:((List ae)×Condition)→Option (List ae))(l_4:List ae)(c_5:Condition):Option (List ae):=
 bif (c_5.Op==2) then ((yw l_4 c_5.Name).bind fun r3=>some r3) else (bd (ρ:=(List ae)) (mM cH l_4 c_5 (0,l_4)) fun u7:(List ae)=>some u7)
def l8 (cH:((List ae)×Condition)→Option (List ae))(x:(List ae)×Condition):Option (List ae):=vi cH x.1 x.2
def Ng (l_4:List ae)(c_5:Condition):Option (List ae):=aJ l8 (l_4,c_5)
theorem Zc:∀x,Fin1 fun cH=>l8 cH x:=by
 unfold l8 vi
 repeat first|intro _|exact aR|exact bq|exact jm|exact lw|exact iM|exact jI|exact i8|exact i9|apply br|apply bb|apply bc|apply bh|apply bu|apply qy|unfold mM|unfold kA
theorem abG (l_4:List ae)(c_5:Condition):Ng l_4 c_5=vi (aJ l8) l_4 c_5:=bA Zc (l_4,c_5)
def md (c_1:Contract)(self:(Int×(List ae))→Option ((List ae)⊕(List ae)))(x2:Int×(List ae)):Option ((List ae)⊕(List ae)):=
 bif (decide (x2.1<(len c_1.Clauses))) then ((aE c_1.Clauses x2.1).bind fun e3=>(yw x2.2 e3.Action).bind fun r4=>(aE c_1.Clauses x2.1).bind fun e5=>(Ng r4 e5.When).bind fun r6=>self ((ac (x2.1+1)),r6)) else (some (.inr x2.2))
def oK (c_1:Contract): (Int×(List ae))→Option ((List ae)⊕(List ae)):=aJ (md c_1)
theorem Bq (c_1:Contract): ∀a,Fin1 fun f=>md c_1 f a:=by
 unfold md
 repeat first|intro _|exact aR|exact bq|apply br|apply bb|apply bc|apply bh|apply bu
theorem Hr (c_1:Contract)(x:Int×(List ae)):oK c_1 x=md c_1 (oK c_1) x:=bA (Bq c_1) x
def ri (c_1:Contract):Option (List ae):=
 bd (ρ:=(List ae)) (oK c_1 (0,[])) fun u7:(List ae)=>some u7
def mb (c_1:Contract)(self:Int→Option (Bool⊕Unit))(x4:Int):Option (Bool⊕Unit):=
 bif (decide (x4<(len c_1.Clauses))) then ((aE c_1.Clauses x4).bind fun e5=>(wq c_1 e5.Id).bind fun r6=>cj (ρ:=Bool) (bif (r6 != x4) then (some (.inr true)) else ((DA c_1 x4).bind fun r8=>some (.inr (!r8)))) fun u7:Bool=>bif u7 then (some (.inl false)) else (self (ac (x4+1)))) else (some (.inr ()))
def mO (c_1:Contract): Int→Option (Bool⊕Unit):=aJ (mb c_1)
theorem Bp (c_1:Contract): ∀a,Fin1 fun f=>mb c_1 f a:=by
 unfold mb
 repeat first|intro _|exact aR|exact bq|apply br|apply bb|apply bc|apply bh|apply bu
theorem Ho (c_1:Contract)(x:Int):mO c_1 x=mb c_1 (mO c_1) x:=bA (Bp c_1) x
def DE (c_1:Contract):Option Bool:=
 (eN (len c_1.Clauses) 1 12).bind fun r2=>bd (ρ:=Bool) (bif (!r2) then (some (.inr true)) else ((yF c_1).bind fun r11=>some (.inr (!r11)))) fun u3:Bool=>bif u3 then (some false) else (bd (ρ:=Bool) (mO c_1 0) fun u9:Unit=>(ri c_1).bind fun r10=>some (decide ((len r10)≤16)))
def kz (az:List ae)(self:Int→Option (Bool⊕Unit))(x2:Int):Option (Bool⊕Unit):=
 bU (bif (decide (x2<(len az))) then (decide (x2≤16)) else false) fun u3:Bool=>bif u3 then ((aE az x2).bind fun e4=>(su e4).bind fun r5=>cj (ρ:=Bool) (bif (!r5) then (some (.inr true)) else (cj (ρ:=Bool) (bif (decide (x2>0)) then ((aE az (ac (x2 - 1))).bind fun e8=>(aE az x2).bind fun e9=>some (.inr (!(Op.bytesLess e8 e9)))) else (some (.inr false))) fun u7:Bool=>some (.inr u7))) fun u6:Bool=>bif u6 then (some (.inl false)) else (self (ac (x2+1)))) else (some (.inr ()))
def jl (az:List ae): Int→Option (Bool⊕Unit):=aJ (kz az)
theorem Bg (az:List ae): ∀a,Fin1 fun f=>kz az f a:=by
 unfold kz
 repeat first|intro _|exact aR|exact bq|apply br|apply bb|apply bc|apply bh|apply bu
theorem wj (az:List ae)(x:Int):jl az x=kz az (jl az) x:=bA (Bg az) x
def Dq (az:List ae):Option Bool:=
 bd (ρ:=Bool) (jl az 0) fun u10:Unit=>some (decide ((len az)≤16))
def oI (c_1:Contract)(i_2:Int)(self:Int→Option (Bool⊕Unit))(x3:Int):Option (Bool⊕Unit):=
 bif (decide (x3<(len c_1.Clauses))) then ((aE c_1.Clauses x3).bind fun e4=>(aE c_1.Clauses i_2).bind fun e5=>bif (e4.Repair==e5.Id) then (some (.inl true)) else (self (ac (x3+1)))) else (some (.inr ()))
def vo (c_1:Contract)(i_2:Int): Int→Option (Bool⊕Unit):=aJ (oI c_1 i_2)
theorem Bn (c_1:Contract)(i_2:Int): ∀a,Fin1 fun f=>oI c_1 i_2 f a:=by
 unfold oI
 repeat first|intro _|exact aR|exact bq|apply br|apply bb|apply bc|apply bh|apply bu
theorem RD (c_1:Contract)(i_2:Int)(x:Int):vo c_1 i_2 x=oI c_1 i_2 (vo c_1 i_2) x:=bA (Bn c_1 i_2) x
def DC (c_1:Contract)(i_2:Int):Option Bool:=
 bd (ρ:=Bool) (vo c_1 i_2 0) fun u6:Unit=>some false
def mf (s_1:State)(i_2:Int)(self:(Int×Int)→Option (Int⊕Int))(x3:Int×Int):Option (Int⊕Int):=
 bif (decide (x3.2<(len s_1.Duties))) then ((aE s_1.Duties x3.2).bind fun e4=>bU (bif (e4.Clause==i_2) then (ac (x3.1+1)) else x3.1) fun u5:Int=>self (u5,(ac (x3.2+1)))) else (some (.inr x3.1))
def mP (s_1:State)(i_2:Int): (Int×Int)→Option (Int⊕Int):=aJ (mf s_1 i_2)
theorem Bs (s_1:State)(i_2:Int): ∀a,Fin1 fun f=>mf s_1 i_2 f a:=by
 unfold mf
 repeat first|intro _|exact aR|exact bq|apply br|apply bb|apply bc|apply bh|apply bu
theorem Hz (s_1:State)(i_2:Int)(x:Int×Int):mP s_1 i_2 x=mf s_1 i_2 (mP s_1 i_2) x:=bA (Bs s_1 i_2) x
def DH (s_1:State)(i_2:Int):Option Int:=
 bd (ρ:=Int) (mP s_1 i_2 (0,0)) fun u6:Int=>some u6
def DJ (c_1:Contract)(s_2:State)(k_3:Int):Option Bool:=
 (aE s_2.Duties k_3).bind fun e4=>(eN e4.Clause 0 (ac ((len c_1.Clauses) - 1))).bind fun r5=>bd (ρ:=Bool) (bif (!r5) then (some (.inr true)) else ((aE c_1.Clauses e4.Clause).bind fun e35=>cj (ρ:=Bool) (bif (e35.Kind != 1) then (some (.inr true)) else ((eN e4.Since 0 s_2.Day).bind fun r37=>cj (ρ:=Bool) (bif (!r37) then (some (.inr true)) else ((aE c_1.Clauses e4.Clause).bind fun e39=>cj (ρ:=Bool) (bif (e4.Due != (ac (e4.Since+e39.Within))) then (some (.inr true)) else ((pW e4.Due).bind fun r41=>cj (ρ:=Bool) (bif (!r41) then (some (.inr true)) else ((eN e4.Status 1 4).bind fun r43=>some (.inr (!r43)))) fun u42:Bool=>some (.inr u42))) fun u40:Bool=>some (.inr u40))) fun u38:Bool=>some (.inr u38))) fun u36:Bool=>some (.inr u36))) fun u6:Bool=>bif u6 then (some false) else (bd (ρ:=Bool) (bif (decide (k_3>0)) then ((aE s_2.Duties (ac (k_3 - 1))).bind fun e11=>bU (bif (decide (e11.Since>e4.Since)) then true else (bU (bif (e4.Status==1) then (bU (bif (decide (e4.Due<s_2.Day)) then true else (bU (bif s_2.Over then true else (bU (bif (e4.Status==3) then (bU (bif (decide (e4.Due≥s_2.Day)) then true else (bU (bif (e4.Status==4) then (!s_2.Over) else false) fun u18:Bool=>u18)) fun u17:Bool=>u17) else (bU (bif (e4.Status==4) then (!s_2.Over) else false) fun u19:Bool=>u19)) fun u16:Bool=>u16)) fun u15:Bool=>u15)) fun u14:Bool=>u14) else (bU (bif (e4.Status==3) then (bU (bif (decide (e4.Due≥s_2.Day)) then true else (bU (bif (e4.Status==4) then (!s_2.Over) else false) fun u22:Bool=>u22)) fun u21:Bool=>u21) else (bU (bif (e4.Status==4) then (!s_2.Over) else false) fun u23:Bool=>u23)) fun u20:Bool=>u20)) fun u13:Bool=>u13)) fun u12:Bool=>some (.inr u12)) else (bU (bif (e4.Status==1) then (bU (bif (decide (e4.Due<s_2.Day)) then true else (bU (bif s_2.Over then true else (bU (bif (e4.Status==3) then (bU (bif (decide (e4.Due≥s_2.Day)) then true else (bU (bif (e4.Status==4) then (!s_2.Over) else false) fun u29:Bool=>u29)) fun u28:Bool=>u28) else (bU (bif (e4.Status==4) then (!s_2.Over) else false) fun u30:Bool=>u30)) fun u27:Bool=>u27)) fun u26:Bool=>u26)) fun u25:Bool=>u25) else (bU (bif (e4.Status==3) then (bU (bif (decide (e4.Due≥s_2.Day)) then true else (bU (bif (e4.Status==4) then (!s_2.Over) else false) fun u33:Bool=>u33)) fun u32:Bool=>u32) else (bU (bif (e4.Status==4) then (!s_2.Over) else false) fun u34:Bool=>u34)) fun u31:Bool=>u31)) fun u24:Bool=>some (.inr u24))) fun u7:Bool=>bif u7 then (some false) else ((DC c_1 e4.Clause).bind fun r8=>bd (ρ:=Bool) (bif r8 then (some (.inr true)) else ((DH s_2 e4.Clause).bind fun r10=>some (.inr (r10==1)))) fun u9:Bool=>some u9))
def Dm (x_1:Int):Option Bool:=
 (eN x_1 (-1000000000) 1000000000).bind fun r2=>some r2
def l6 (az:List Int)(self:(Int×Int)→Option (Int⊕Int))(x2:Int×Int):Option (Int⊕Int):=
 bif (decide (x2.2<(len az))) then ((aE az x2.2).bind fun e3=>self ((ac (x2.1+e3)),(ac (x2.2+1)))) else (some (.inr x2.1))
def ln (az:List Int): (Int×Int)→Option (Int⊕Int):=aJ (l6 az)
theorem Bf (az:List Int): ∀a,Fin1 fun f=>l6 az f a:=by
 unfold l6
 repeat first|intro _|exact aR|exact bq|apply br|apply bb|apply bc|apply bh|apply bu
theorem GO (az:List Int)(x:Int×Int):ln az x=l6 az (ln az) x:=bA (Bf az) x
def wi (az:List Int):Option Int:=
 bd (ρ:=Int) (ln az (0,0)) fun u4:Int=>some u4
def oL (c_1:Contract)(s_2:State)(r5:(List ae))(self:Int→Option (Bool⊕Unit))(x6:Int):Option (Bool⊕Unit):=
 bif (decide (x6<(len s_2.Facts))) then ((aE s_2.Facts x6).bind fun e7=>(wl r5 e7).bind fun r8=>bif (!r8) then (some (.inl false)) else (self (ac (x6+1)))) else (some (.inr ()))
def vu (c_1:Contract)(s_2:State)(r5:(List ae)):Int→Option (Bool⊕Unit):=aJ (oL c_1 s_2 r5)
theorem Bt (c_1:Contract)(s_2:State)(r5:(List ae)):∀a,Fin1 fun f=>oL c_1 s_2 r5 f a:=by
 unfold oL
 repeat first|intro _|exact aR|exact bq|apply br|apply bb|apply bc|apply bh|apply bu
theorem RF (c_1:Contract)(s_2:State)(r5:(List ae))(x:Int):vu c_1 s_2 r5 x=oL c_1 s_2 r5 (vu c_1 s_2 r5) x:=bA (Bt c_1 s_2 r5) x
def mg (c_1:Contract)(s_2:State)(self:Int→Option (Bool⊕Unit))(x10:Int):Option (Bool⊕Unit):=
 bif (decide (x10<(len s_2.Duties))) then ((DJ c_1 s_2 x10).bind fun r11=>bif (!r11) then (some (.inl false)) else (self (ac (x10+1)))) else (some (.inr ()))
def oM (c_1:Contract)(s_2:State): Int→Option (Bool⊕Unit):=aJ (mg c_1 s_2)
theorem Bu (c_1:Contract)(s_2:State): ∀a,Fin1 fun f=>mg c_1 s_2 f a:=by
 unfold mg
 repeat first|intro _|exact aR|exact bq|apply br|apply bb|apply bc|apply bh|apply bu
theorem HE (c_1:Contract)(s_2:State)(x:Int):oM c_1 s_2 x=mg c_1 s_2 (oM c_1 s_2) x:=bA (Bu c_1 s_2) x
def oO (c_1:Contract)(s_2:State)(self:Int→Option (Bool⊕Unit))(x13:Int):Option (Bool⊕Unit):=
 bif (decide (x13<(len s_2.Balances))) then ((aE s_2.Balances x13).bind fun e14=>(Dm e14).bind fun r15=>bif (!r15) then (some (.inl false)) else (self (ac (x13+1)))) else (some (.inr ()))
def vv (c_1:Contract)(s_2:State): Int→Option (Bool⊕Unit):=aJ (oO c_1 s_2)
theorem Bv (c_1:Contract)(s_2:State): ∀a,Fin1 fun f=>oO c_1 s_2 f a:=by
 unfold oO
 repeat first|intro _|exact aR|exact bq|apply br|apply bb|apply bc|apply bh|apply bu
theorem RG (c_1:Contract)(s_2:State)(x:Int):vv c_1 s_2 x=oO c_1 s_2 (vv c_1 s_2) x:=bA (Bv c_1 s_2) x
def wu (c_1:Contract)(s_2:State):Option Bool:=
 (DE c_1).bind fun r3=>bd (ρ:=Bool) (bif (!r3) then (some (.inr true)) else ((pW s_2.Day).bind fun r18=>cj (ρ:=Bool) (bif (!r18) then (some (.inr true)) else ((Dq s_2.Facts).bind fun r20=>bU (bif (!r20) then true else (bU (bif (decide ((len s_2.Duties)>24)) then true else ((len s_2.Balances) != (len c_1.Parties))) fun u22:Bool=>u22)) fun u21:Bool=>some (.inr u21))) fun u19:Bool=>some (.inr u19))) fun u4:Bool=>bif u4 then (some false) else ((ri c_1).bind fun r5=>bd (ρ:=Bool) (vu c_1 s_2 r5 0) fun u9:Unit=>bd (ρ:=Bool) (oM c_1 s_2 0) fun u12:Unit=>bd (ρ:=Bool) (vv c_1 s_2 0) fun u16:Unit=>(wi s_2.Balances).bind fun r17=>some (r17==0))
def l5 (s_1:State)(dQ:List Int)(k_3:Int)(self:Int→Option ((List Int)⊕Int))(x4:Int):Option ((List Int)⊕Int):=
 cj (ρ:=(List Int)) (bif (decide (x4>0)) then ((aE dQ (ac (x4 - 1))).bind fun e6=>(aE s_1.Duties e6).bind fun e7=>(aE s_1.Duties k_3).bind fun e8=>some (.inr (decide (e7.Due>e8.Due)))) else (some (.inr false))) fun u5:Bool=>bif u5 then (self (ac (x4 - 1))) else (some (.inr x4))
def pV (s_1:State)(dQ:List Int)(k_3:Int): Int→Option ((List Int)⊕Int):=aJ (l5 s_1 dQ k_3)
theorem Be (s_1:State)(dQ:List Int)(k_3:Int): ∀a,Fin1 fun f=>l5 s_1 dQ k_3 f a:=by
 unfold l5
 repeat first|intro _|exact aR|exact bq|apply br|apply bb|apply bc|apply bh|apply bu
theorem GJ (s_1:State)(dQ:List Int)(k_3:Int)(x:Int):pV s_1 dQ k_3 x=l5 s_1 dQ k_3 (pV s_1 dQ k_3) x:=bA (Be s_1 dQ k_3) x
def wh (s_1:State)(dQ:List Int)(k_3:Int):Option (List Int):=
 bd (ρ:=(List Int)) (pV s_1 dQ k_3 (len dQ)) fun u9:Int=>(lD dQ 0 u9).bind fun s10=>(iX 8 ([]:List Int) s10).bind fun a11=>(iX 8 a11 [k_3]).bind fun a12=>(lD dQ u9 (len dQ)).bind fun s13=>(iX 8 a12 s13).bind fun a14=>some a14
def l4 (c_1:Contract)(s_2:State)(eb:Int)(fu:Int)(self:(Int×(List Int))→Option ((List Int)⊕(List Int)))(x5:Int×(List Int)):Option ((List Int)⊕(List Int)):=
 bif (decide (x5.1<(len s_2.Duties))) then ((aE s_2.Duties x5.1).bind fun e6=>(aE c_1.Clauses e6.Clause).bind fun e7=>(aE s_2.Duties x5.1).bind fun e8=>bU (bif (e8.Status==1) then (bU (bif (decide (eb<0)) then (bU (bif (decide (fu<0)) then true else (e7.Other==fu)) fun u13:Bool=>u13) else (bU (bif (e7.Party==eb) then (bU (bif (decide (fu<0)) then true else (e7.Other==fu)) fun u15:Bool=>u15) else false) fun u14:Bool=>u14)) fun u12:Bool=>u12) else false) fun u9:Bool=>cj (ρ:=(List Int)) (bif u9 then ((wh s_2 x5.2 x5.1).bind fun r11=>some (.inr r11)) else (some (.inr x5.2))) fun u10:(List Int)=>self ((ac (x5.1+1)),u10)) else (some (.inr x5.2))
def lm (c_1:Contract)(s_2:State)(eb:Int)(fu:Int): (Int×(List Int))→Option ((List Int)⊕(List Int)):=aJ (l4 c_1 s_2 eb fu)
theorem Bd (c_1:Contract)(s_2:State)(eb:Int)(fu:Int): ∀a,Fin1 fun f=>l4 c_1 s_2 eb fu f a:=by
 unfold l4
 repeat first|intro _|exact aR|exact bq|apply br|apply bb|apply bc|apply bh|apply bu
theorem GF (c_1:Contract)(s_2:State)(eb:Int)(fu:Int)(x:Int×(List Int)):lm c_1 s_2 eb fu x=l4 c_1 s_2 eb fu (lm c_1 s_2 eb fu) x:=bA (Bd c_1 s_2 eb fu) x
def Dj (c_1:Contract)(s_2:State)(eb:Int)(fu:Int):Option (List Int):=
 bd (ρ:=(List Int)) (lm c_1 s_2 eb fu (0,[])) fun u16:(List Int)=>some u16
def l3 (c_1:Contract)(s_2:State)(dB:Int)(r6:(List Int))(self:(Int×(List Int))→Option (((List Int)×Bool)⊕(List Int)))(x7:Int×(List Int)):Option (((List Int)×Bool)⊕(List Int)):=
 bif (decide (x7.1<(len r6))) then ((aE r6 x7.1).bind fun e8=>(aE s_2.Duties e8).bind fun e9=>cj (ρ:=(List Int)×Bool) (bif (decide (e9.Due<dB)) then ((aE r6 x7.1).bind fun e11=>(iX 8 x7.2 [e11]).bind fun a12=>some (.inr a12)) else (some (.inr x7.2))) fun u10:(List Int)=>self ((ac (x7.1+1)),u10)) else (some (.inr x7.2))
def mK (c_1:Contract)(s_2:State)(dB:Int)(r6:(List Int)):(Int×(List Int))→Option (((List Int)×Bool)⊕(List Int)):=aJ (l3 c_1 s_2 dB r6)
theorem Bc (c_1:Contract)(s_2:State)(dB:Int)(r6:(List Int)):∀a,Fin1 fun f=>l3 c_1 s_2 dB r6 f a:=by
 unfold l3
 repeat first|intro _|exact aR|exact bq|apply br|apply bb|apply bc|apply bh|apply bu
theorem GC (c_1:Contract)(s_2:State)(dB:Int)(r6:(List Int))(x:Int×(List Int)):mK c_1 s_2 dB r6 x=l3 c_1 s_2 dB r6 (mK c_1 s_2 dB r6) x:=bA (Bc c_1 s_2 dB r6) x
def Dh (c_1:Contract)(s_2:State)(dB:Int):Option ((List Int)×Bool):=
 (wu c_1 s_2).bind fun r4=>bd (ρ:=(List Int)×Bool) (bif (!r4) then (some (.inr true)) else ((pW dB).bind fun r14=>some (.inr (!r14)))) fun u5:Bool=>bif u5 then (some ([],false)) else ((Dj c_1 s_2 (-1) (-1)).bind fun r6=>bd (ρ:=(List Int)×Bool) (mK c_1 s_2 dB r6 (0,[])) fun u13:(List Int)=>some (u13,true))
def jE (n_1:Int)(pB:Int)(mq:Int):Option Bool:=
 bU (bif (decide (n_1≥pB)) then (decide (n_1≤mq)) else false) fun u4:Bool=>some u4
def Mu (s_1:ae)(c_2:Int):Option Int:=
 (sZ s_1 c_2).bind fun r3=>some r3
def Mr (s_1:ae)(bp:ae):Option Int:=
 bU (bif ((len bp)==0) then true else (bp==s_1)) fun u3:Bool=>bif u3 then (some 0) else (bif ((len bp)==1) then ((aE bp 0).bind fun c4=>(Mu s_1 (c4.toNat:Int)).bind fun r5=>some r5) else (bif (decide ((len bp)≥(len s_1))) then (some (-1)) else none))
def Jr (s_1:ae)(bp:ae):Option Int:=
 (Mr s_1 bp).bind fun r3=>some r3
def tq (s_1:ae)(bp:ae)(self:(ae×Int)→Option (Int⊕Unit))(x5:ae×Int):Option (Int⊕Unit):=
 (Jr x5.1 bp).bind fun r6=>bif (r6==(-1)) then (some (.inl x5.2)) else ((lD x5.1 (ac (r6+(len bp))) (len x5.1)).bind fun s7=>self (s7,(ac (x5.2+1))))
def Qy (s_1:ae)(bp:ae): (ae×Int)→Option (Int⊕Unit):=aJ (tq s_1 bp)
theorem P1 (s_1:ae)(bp:ae): ∀a,Fin1 fun f=>tq s_1 bp f a:=by
 unfold tq
 repeat first|intro _|exact aR|exact bq|apply br|apply bb|apply bc|apply bh|apply bu
def Ns (s_1:ae)(bp:ae):Option Int:=
 bif ((len bp)==0) then none else (bif ((len bp)==1) then ((aE bp 0).bind fun c3=>(zA s_1 (c3.toNat:Int)).bind fun r4=>some r4) else (bd (ρ:=Int) (Qy s_1 bp (s_1,0)) fun u8:Unit=>none))
def tt (s_1:ae)(ed:ae)(dS:Int)(n_4:Int)(u5:Int)(self:(ae×Int×(List ae))→Option ((List ae)⊕(ae×Int×(List ae))))(x7:ae×Int×(List ae)):Option ((List ae)⊕(ae×Int×(List ae))):=
 bif (decide (x7.2.1<(ac ((if (ac ((len s_1)+1))<u5 then (ac ((len s_1)+1)) else u5) - 1)))) then ((Jr x7.1 ed).bind fun r8=>bif (decide (r8<0)) then (some (.inr (x7.1,x7.2.1,x7.2.2))) else ((lD x7.1 0 (ac (r8+dS))).bind fun s9=>(aE x7.2.2 x7.2.1).bind fun e10=>(lD x7.1 (ac (r8+(len ed))) (len x7.1)).bind fun s11=>self (s11,(ac (x7.2.1+1)),(bI x7.2.2 x7.2.1 s9)))) else (some (.inr (x7.1,x7.2.1,x7.2.2)))
def zK (s_1:ae)(ed:ae)(dS:Int)(n_4:Int)(u5:Int):(ae×Int×(List ae))→Option ((List ae)⊕(ae×Int×(List ae))):=aJ (tt s_1 ed dS n_4 u5)
theorem Bw (s_1:ae)(ed:ae)(dS:Int)(n_4:Int)(u5:Int):∀a,Fin1 fun f=>tt s_1 ed dS n_4 u5 f a:=by
 unfold tt
 repeat first|intro _|exact aR|exact bq|apply br|apply bb|apply bc|apply bh|apply bu
def Nu (s_1:ae)(ed:ae)(dS:Int)(n_4:Int):Option (List ae):=
 bif (n_4==0) then (some []) else (bif (ed==([]:ae)) then none else (bd (ρ:=(List ae)) (bif (decide (n_4<0)) then ((Ns s_1 ed).bind fun r16=>some (.inr (ac (r16+1)))) else (some (.inr n_4))) fun u5:Int=>(tF 16 [] (if (ac ((len s_1)+1))<u5 then (ac ((len s_1)+1)) else u5)).bind fun m6=>bd (ρ:=(List ae)) (zK s_1 ed dS n_4 u5 (s_1,0,m6)) fun u12:ae×Int×(List ae)=>(aE u12.2.2 u12.2.1).bind fun e13=>(jS (bI u12.2.2 u12.2.1 u12.1).length 0 (ac (u12.2.1+1))).bind fun s14=>(jT (bI u12.2.2 u12.2.1 u12.1) (0+Int.toNat (0)) (Int.toNat (ac (u12.2.1+1)) - Int.toNat (0))).bind fun p15=>some p15))
def DN (s_1:ae)(ed:ae):Option (List ae):=
 (Nu s_1 ed 0 (-1)).bind fun r3=>some r3
def lY (s_1:List ae)(v_2:ae)(self:Int→Option (Int⊕Unit))(x3:Int):Option (Int⊕Unit):=
 bif (decide (x3<(len s_1))) then ((aE s_1 x3).bind fun e4=>bif (v_2==e4) then (some (.inl x3)) else (self (ac (x3+1)))) else (some (.inr ()))
def rU (s_1:List ae)(v_2:ae): Int→Option (Int⊕Unit):=aJ (lY s_1 v_2)
theorem AU (s_1:List ae)(v_2:ae): ∀a,Fin1 fun f=>lY s_1 v_2 f a:=by
 unfold lY
 repeat first|intro _|exact aR|exact bq|apply br|apply bb|apply bc|apply bh|apply bu
theorem Gf (s_1:List ae)(v_2:ae)(x:Int):rU s_1 v_2 x=lY s_1 v_2 (rU s_1 v_2) x:=bA (AU s_1 v_2) x
def C8 (s_1:List ae)(v_2:ae):Option Int:=
 bd (ρ:=Int) (rU s_1 v_2 0) fun u5:Unit=>some (-1)
def sk (s_1:List ae)(v_2:ae):Option Bool:=
 (C8 s_1 v_2).bind fun r3=>some (decide (r3≥0))
def pZ (s_1:ae)(self:Int→Option (Bool⊕Unit))(x4:Int):Option (Bool⊕Unit):=
 bif (decide (x4<(len s_1))) then ((aE s_1 x4).bind fun c5=>bU (bif (decide ((c5.toNat:Int)<97)) then (bU (bif (decide ((c5.toNat:Int)<48)) then true else (decide ((c5.toNat:Int)>57))) fun u7:Bool=>u7) else (bU (bif (decide ((c5.toNat:Int)>122)) then (bU (bif (decide ((c5.toNat:Int)<48)) then true else (decide ((c5.toNat:Int)>57))) fun u9:Bool=>u9) else false) fun u8:Bool=>u8)) fun u6:Bool=>bif u6 then (some (.inl false)) else (self (ac (x4+1)))) else (some (.inr ()))
def yu (s_1:ae): Int→Option (Bool⊕Unit):=aJ (pZ s_1)
theorem G8 (s_1:ae): ∀a,Fin1 fun f=>pZ s_1 f a:=by
 unfold pZ
 repeat first|intro _|exact aR|exact bq|apply br|apply bb|apply bc|apply bh|apply bu
theorem VW (s_1:ae)(x:Int):yu s_1 x=pZ s_1 (yu s_1) x:=bA (G8 s_1) x
def xj (s_1:ae):Option Bool:=
 (jE (len s_1) 1 8).bind fun r2=>bd (ρ:=Bool) (bif (!r2) then (some (.inr true)) else ((aE s_1 0).bind fun c13=>cj (ρ:=Bool) (bif (decide ((c13.toNat:Int)<97)) then (some (.inr true)) else ((aE s_1 0).bind fun c15=>some (.inr (decide ((c15.toNat:Int)>122))))) fun u14:Bool=>some (.inr u14))) fun u3:Bool=>bif u3 then (some false) else (bd (ρ:=Bool) (yu s_1 0) fun u10:Unit=>(DN ([116,114,117,101,32,102,114,111,109,32,110,111,116,32,97,110,100,32,111,114,32,98,111,116,104,32,101,105,116,104,101,114,32,105,116,32,105,110]:ae) ([32]:ae)).bind fun r11=>(sk r11 s_1).bind fun r12=>some (!r12))
def nK (az:List ae)(self:Int→Option (Bool⊕Unit))(x2:Int):Option (Bool⊕Unit):=
 bif (decide (x2<(len az))) then ((aE az x2).bind fun e3=>(xj e3).bind fun r4=>cj (ρ:=Bool) (bif (!r4) then (some (.inr true)) else ((lD az 0 x2).bind fun s6=>(sk s6 e3).bind fun r7=>some (.inr r7))) fun u5:Bool=>bif u5 then (some (.inl false)) else (self (ac (x2+1)))) else (some (.inr ()))
def yI (az:List ae): Int→Option (Bool⊕Unit):=aJ (nK az)
theorem HT (az:List ae): ∀a,Fin1 fun f=>nK az f a:=by
 unfold nK
 repeat first|intro _|exact aR|exact bq|apply br|apply bb|apply bc|apply bh|apply bu
theorem Kr (az:List ae)(x:Int):yI az x=nK az (yI az) x:=bA (HT az) x
def Nw (az:List ae):Option Bool:=
 bd (ρ:=Bool) (yI az 0) fun u8:Unit=>(jE (len az) 2 4).bind fun r9=>some r9
def Wu (x_1:Clause)(a_2:ae):Option Bool:=
 some (x_1.Id==a_2)
def ot (s_1:List Clause)(f_2:ae)(self:Int→Option (Int⊕Unit))(x3:Int):Option (Int⊕Unit):=
 bif (decide (x3<(len s_1))) then ((aE s_1 x3).bind fun e4=>(Wu e4 f_2).bind fun r5=>bif r5 then (some (.inl x3)) else (self (ac (x3+1)))) else (some (.inr ()))
def uR (s_1:List Clause)(f_2:ae): Int→Option (Int⊕Unit):=aJ (ot s_1 f_2)
theorem AN (s_1:List Clause)(f_2:ae): ∀a,Fin1 fun f=>ot s_1 f_2 f a:=by
 unfold ot
 repeat first|intro _|exact aR|exact bq|apply br|apply bb|apply bc|apply bh|apply bu
theorem Rr (s_1:List Clause)(f_2:ae)(x:Int):uR s_1 f_2 x=ot s_1 f_2 (uR s_1 f_2) x:=bA (AN s_1 f_2) x
def Jf (s_1:List Clause)(f_2:ae):Option Int:=
 bd (ρ:=Int) (uR s_1 f_2 0) fun u6:Unit=>some (-1)
def HU (c_1:Contract)(fC:ae):Option Int:=
 (Jf c_1.Clauses fC).bind fun r3=>some r3
def oP (iq:Int):Option Bool:=
 (jE iq 0 36524).bind fun r2=>some r2
def mi (bo:(Condition×Int)→Option Int)(c_1:Condition)(cU:Int)(self:(Int×Int)→Option (Int⊕Int))(x5:Int×Int):Option (Int⊕Int):=
 bif (decide (x5.2<(len c_1.Parts))) then ((aE c_1.Parts x5.2).bind fun e6=>(bo (e6,x5.1)).bind fun r7=>bif (decide (r7<0)) then (some (.inl (-1))) else (self (r7,(ac (x5.2+1))))) else (some (.inr x5.1))
def nm (bo:(Condition×Int)→Option Int)(c_1:Condition)(cU:Int): (Int×Int)→Option (Int⊕Int):=aJ (mi bo c_1 cU)
theorem HX (bo:(Condition×Int)→Option Int)(c_1:Condition)(cU:Int): ∀a,Fin1 fun f=>mi bo c_1 cU f a:=by
 unfold mi
 repeat first|intro _|exact aR|exact bq|apply br|apply bb|apply bc|apply bh|apply bu
theorem Ks (bo:(Condition×Int)→Option Int)(c_1:Condition)(cU:Int)(x:Int×Int):nm bo c_1 cU x=mi bo c_1 cU (nm bo c_1 cU) x:=bA (HX bo c_1 cU) x
def zM (bo:(Condition×Int)→Option Int)(c_1:Condition)(cU:Int):Option Int:=
 bd (ρ:=Int) (bif (decide ((ac (cU+1))>15)) then (some (.inr true)) else ((jE c_1.Op 1 6).bind fun r20=>cj (ρ:=Int) (bif (!r20) then (some (.inr true)) else ((aE [(-1),0,0,0,1,2,2] c_1.Op).bind fun e22=>some (.inr ((len c_1.Parts) != e22)))) fun u21:Bool=>some (.inr u21))) fun u3:Bool=>bif u3 then (some (-1)) else (bd (ρ:=Int) (bif (!((c_1.Op==2)==(!(c_1.Name==([]:ae))))) then (some (.inr true)) else (cj (ρ:=Int) (bif (c_1.Op==2) then ((xj c_1.Name).bind fun r10=>cj (ρ:=Int) (bif (!r10) then (some (.inr true)) else (cj (ρ:=Int) (bif (c_1.Op != 3) then (cj (ρ:=Int) (bif (c_1.Day != 0) then (some (.inr true)) else ((oP c_1.Day).bind fun r14=>some (.inr (!r14)))) fun u13:Bool=>some (.inr u13)) else ((oP c_1.Day).bind fun r15=>some (.inr (!r15)))) fun u12:Bool=>some (.inr u12))) fun u11:Bool=>some (.inr u11)) else (cj (ρ:=Int) (bif (c_1.Op != 3) then (cj (ρ:=Int) (bif (c_1.Day != 0) then (some (.inr true)) else ((oP c_1.Day).bind fun r18=>some (.inr (!r18)))) fun u17:Bool=>some (.inr u17)) else ((oP c_1.Day).bind fun r19=>some (.inr (!r19)))) fun u16:Bool=>some (.inr u16))) fun u9:Bool=>some (.inr u9))) fun u4:Bool=>bif u4 then (some (-1)) else (bd (ρ:=Int) (nm bo c_1 cU ((ac (cU+1)),0)) fun u8:Int=>some u8))
def nz (bo:(Condition×Int)→Option Int)(x:Condition×Int):Option Int:=zM bo x.1 x.2
def Wv (c_1:Condition)(cU:Int):Option Int:=aJ nz (c_1,cU)
theorem abS:∀x,Fin1 fun bo=>nz bo x:=by
 unfold nz zM
 repeat first|intro _|exact aR|exact bq|exact jm|exact lw|exact iM|exact jI|exact i8|exact i9|apply br|apply bb|apply bc|apply bh|apply bu|apply qy|unfold nm|unfold mi
theorem ae0 (c_1:Condition)(cU:Int):Wv c_1 cU=zM (aJ nz) c_1 cU:=bA abS (c_1,cU)
def MH (c_1:Condition):Option Bool:=
 (Wv c_1 0).bind fun r2=>some (decide (r2>0))
def NA (c_1:Contract)(i_2:Int):Option Bool:=
 (aE c_1.Clauses i_2).bind fun e3=>(xj e3.Id).bind fun r4=>bd (ρ:=Bool) (bif (!r4) then (some (.inr true)) else ((HU c_1 e3.Id).bind fun r23=>cj (ρ:=Bool) (bif (r23 != i_2) then (some (.inr true)) else ((xj e3.Action).bind fun r25=>cj (ρ:=Bool) (bif (!r25) then (some (.inr true)) else ((jE e3.Kind 1 4).bind fun r27=>some (.inr (!r27)))) fun u26:Bool=>some (.inr u26))) fun u24:Bool=>some (.inr u24))) fun u5:Bool=>bif u5 then (some false) else ((jE e3.Party 0 (ac ((len c_1.Parties) - 1))).bind fun r6=>bd (ρ:=Bool) (bif (!r6) then (some (.inr true)) else ((jE e3.Other 0 (ac ((len c_1.Parties) - 1))).bind fun r19=>cj (ρ:=Bool) (bif (!r19) then (some (.inr true)) else (cj (ρ:=Bool) (bif (e3.Party==e3.Other) then (some (.inr true)) else ((MH e3.When).bind fun r22=>some (.inr (!r22)))) fun u21:Bool=>some (.inr u21))) fun u20:Bool=>some (.inr u20))) fun u7:Bool=>bif u7 then (some false) else ((jE e3.Amount 0 1000000).bind fun r8=>bd (ρ:=Bool) (bif (!r8) then (some (.inr true)) else ((jE e3.Within 0 400).bind fun r15=>bU (bif (!r15) then true else (bU (bif (e3.Kind != 1) then (bU (bif (e3.Amount != 0) then true else (e3.Within != 0)) fun u18:Bool=>u18) else false) fun u17:Bool=>u17)) fun u16:Bool=>some (.inr u16))) fun u9:Bool=>bif u9 then (some false) else (bif (e3.Repair==([]:ae)) then (some true) else ((HU c_1 e3.Repair).bind fun r10=>bd (ρ:=Bool) (bif (e3.Kind != 3) then (cj (ρ:=Bool) (bif (decide (r10≥0)) then (cj (ρ:=Bool) (bif (r10 != i_2) then ((aE c_1.Clauses r10).bind fun e14=>some (.inr (e14.Kind==1))) else (some (.inr false))) fun u13:Bool=>some (.inr u13)) else (some (.inr false))) fun u12:Bool=>some (.inr u12)) else (some (.inr false))) fun u11:Bool=>some u11))))
def mh (cQ:(Condition×(List ae))→Option (List ae))(c_3:Condition)(d5:List ae)(self:(Int×(List ae))→Option ((List ae)⊕(List ae)))(x4:Int×(List ae)):Option ((List ae)⊕(List ae)):=
 bif (decide (x4.1<(len c_3.Parts))) then ((aE c_3.Parts x4.1).bind fun e5=>(cQ (e5,x4.2)).bind fun r6=>self ((ac (x4.1+1)),r6)) else (some (.inr x4.2))
def ph (cQ:(Condition×(List ae))→Option (List ae))(c_3:Condition)(d5:List ae): (Int×(List ae))→Option ((List ae)⊕(List ae)):=aJ (mh cQ c_3 d5)
theorem HR (cQ:(Condition×(List ae))→Option (List ae))(c_3:Condition)(d5:List ae): ∀a,Fin1 fun f=>mh cQ c_3 d5 f a:=by
 unfold mh
 repeat first|intro _|exact aR|exact bq|apply br|apply bb|apply bc|apply bh|apply bu
theorem Kq (cQ:(Condition×(List ae))→Option (List ae))(c_3:Condition)(d5:List ae)(x:Int×(List ae)):ph cQ c_3 d5 x=mh cQ c_3 d5 (ph cQ c_3 d5) x:=bA (HR cQ c_3 d5) x
def zL (cQ:(Condition×(List ae))→Option (List ae))(c_3:Condition)(d5:List ae):Option (List ae):=
 bd (ρ:=(List ae)) (bif (c_3.Op==2) then ((iX 16 d5 [c_3.Name]).bind fun a8=>some (.inr a8)) else (some (.inr d5))) fun u3:(List ae)=>bd (ρ:=(List ae)) (ph cQ c_3 d5 (0,u3)) fun u7:(List ae)=>some u7
def pg (cQ:(Condition×(List ae))→Option (List ae))(x:Condition×(List ae)):Option (List ae):=zL cQ x.1 x.2
def Ws (c_3:Condition)(d5:List ae):Option (List ae):=aJ pg (c_3,d5)
theorem abN:∀x,Fin1 fun cQ=>pg cQ x:=by
 unfold pg zL
 repeat first|intro _|exact aR|exact bq|exact jm|exact lw|exact iM|exact jI|exact i8|exact i9|apply br|apply bb|apply bc|apply bh|apply bu|apply qy|unfold ph|unfold mh
theorem aeZ (c_3:Condition)(d5:List ae):Ws c_3 d5=zL (aJ pg) c_3 d5:=bA abN (c_3,d5)
def lX (s_2:List ae)(x2:Int)(self:(Int×Int×(List ae))→Option ((List ae)⊕(Int×(List ae))))(x6:Int×Int×(List ae)):Option ((List ae)⊕(Int×(List ae))):=
 bif (decide (x6.2.1<(((Int.toNat (len s_2) - Int.toNat x2):Nat):Int))) then ((wK x6.2.2 (0+Int.toNat x2) (Int.toNat (len s_2) - Int.toNat x2) x6.2.1).bind fun e7=>(wK x6.2.2 (0+Int.toNat x2) (Int.toNat (len s_2) - Int.toNat x2) (ac (x6.2.1 - 1))).bind fun e8=>cj (ρ:=(List ae)) (bif (!(e7==e8)) then ((wK x6.2.2 (0+Int.toNat x2) (Int.toNat (len s_2) - Int.toNat x2) x6.2.1).bind fun e10=>(aE x6.2.2 x6.1).bind fun e11=>some (.inr ((ac (x6.1+1)),(bI x6.2.2 x6.1 e10)))) else (some (.inr (x6.1,x6.2.2)))) fun u9:Int×(List ae)=>self (u9.1,(ac (x6.2.1+1)),u9.2)) else (some (.inr (x6.1,x6.2.2)))
def li (s_2:List ae)(x2:Int):(Int×Int×(List ae))→Option ((List ae)⊕(Int×(List ae))):=aJ (lX s_2 x2)
theorem AM (s_2:List ae)(x2:Int):∀a,Fin1 fun f=>lX s_2 x2 f a:=by
 unfold lX
 repeat first|intro _|exact aR|exact bq|apply br|apply bb|apply bc|apply bh|apply bu
theorem FQ (s_2:List ae)(x2:Int)(x:Int×Int×(List ae)):li s_2 x2 x=lX s_2 x2 (li s_2 x2) x:=bA (AM s_2 x2) x
def lW (s_2:List ae)(self:Int→Option ((List ae)⊕(List ae)))(x2:Int):Option ((List ae)⊕(List ae)):=
 bif (decide (x2<(len s_2))) then ((aE s_2 x2).bind fun e3=>(aE s_2 (ac (x2 - 1))).bind fun e4=>bif (e3==e4) then ((jS s_2.length x2 (len s_2)).bind fun s5=>cj (ρ:=(List ae)) (li s_2 x2 (x2,1,s_2)) fun u15:Int×(List ae)=>(jS u15.2.length u15.1 (len u15.2)).bind fun s16=>(yS u15.2 (0+Int.toNat u15.1) (Int.toNat (len u15.2) - Int.toNat u15.1) []).bind fun k17=>(jS k17.length 0 u15.1).bind fun s18=>(jT k17 (0+Int.toNat (0)) (Int.toNat u15.1 - Int.toNat (0))).bind fun p19=>some (.inl p19)) else (self (ac (x2+1)))) else (some (.inr s_2))
def rT (s_2:List ae): Int→Option ((List ae)⊕(List ae)):=aJ (lW s_2)
theorem AL (s_2:List ae): ∀a,Fin1 fun f=>lW s_2 f a:=by
 unfold lW
 repeat first|intro _|exact aR|exact bq|apply br|apply bb|apply bc|apply bh|apply bu
theorem FP (s_2:List ae)(x:Int):rT s_2 x=lW s_2 (rT s_2) x:=bA (AL s_2) x
def CX (s_2:List ae):Option (List ae):=
 bif (decide ((len s_2)<2)) then (some s_2) else (bd (ρ:=(List ae)) (rT s_2 1) fun u20:(List ae)=>some u20)
def B2 (kg:List ae):Option (List ae):=
 (vU kg).bind fun r2=>bif Nat.beq r2.length kg.length then ((CX r2).bind fun r4=>some r4) else none
def nM (c_1:Contract)(self:(Int×(List ae))→Option ((List ae)⊕(List ae)))(x2:Int×(List ae)):Option ((List ae)⊕(List ae)):=
 bif (decide (x2.1<(len c_1.Clauses))) then ((aE c_1.Clauses x2.1).bind fun e3=>(iX 16 x2.2 [e3.Action]).bind fun a4=>(Ws e3.When a4).bind fun r5=>self ((ac (x2.1+1)),r5)) else (some (.inr x2.2))
def qN (c_1:Contract): (Int×(List ae))→Option ((List ae)⊕(List ae)):=aJ (nM c_1)
theorem H0 (c_1:Contract): ∀a,Fin1 fun f=>nM c_1 f a:=by
 unfold nM
 repeat first|intro _|exact aR|exact bq|apply br|apply bb|apply bc|apply bh|apply bu
theorem Ku (c_1:Contract)(x:Int×(List ae)):qN c_1 x=nM c_1 (qN c_1) x:=bA (H0 c_1) x
def Bz (c_1:Contract):Option (List ae):=
 bd (ρ:=(List ae)) (qN c_1 (0,[])) fun u6:(List ae)=>(B2 u6).bind fun r7=>some r7
def nJ (c_1:Contract)(self:Int→Option (Bool⊕Unit))(x4:Int):Option (Bool⊕Unit):=
 bif (decide (x4<(len c_1.Clauses))) then ((NA c_1 x4).bind fun r5=>bif (!r5) then (some (.inl false)) else (self (ac (x4+1)))) else (some (.inr ()))
def pb (c_1:Contract): Int→Option (Bool⊕Unit):=aJ (nJ c_1)
theorem F0 (c_1:Contract): ∀a,Fin1 fun f=>nJ c_1 f a:=by
 unfold nJ
 repeat first|intro _|exact aR|exact bq|apply br|apply bb|apply bc|apply bh|apply bu
theorem Ki (c_1:Contract)(x:Int):pb c_1 x=nJ c_1 (pb c_1) x:=bA (F0 c_1) x
def MU (c_1:Contract):Option Bool:=
 (Nw c_1.Parties).bind fun r2=>bd (ρ:=Bool) (bif (!r2) then (some (.inr true)) else ((jE (len c_1.Clauses) 1 12).bind fun r8=>some (.inr (!r8)))) fun u3:Bool=>bif u3 then (some false) else (bd (ρ:=Bool) (pb c_1 0) fun u6:Unit=>(Bz c_1).bind fun r7=>some (decide ((len r7)≤16)))
def nN (cp:List ae)(self:Int→Option (Bool⊕Unit))(x2:Int):Option (Bool⊕Unit):=
 bif (decide (x2<(len cp))) then ((aE cp x2).bind fun e3=>(xj e3).bind fun r4=>cj (ρ:=Bool) (bif (!r4) then (some (.inr true)) else (cj (ρ:=Bool) (bif (decide (x2>0)) then ((aE cp (ac (x2 - 1))).bind fun e7=>some (.inr (Op.bytesLess e3 e7||e3==e7))) else (some (.inr false))) fun u6:Bool=>some (.inr u6))) fun u5:Bool=>bif u5 then (some (.inl false)) else (self (ac (x2+1)))) else (some (.inr ()))
def pi (cp:List ae): Int→Option (Bool⊕Unit):=aJ (nN cp)
theorem H3 (cp:List ae): ∀a,Fin1 fun f=>nN cp f a:=by
 unfold nN
 repeat first|intro _|exact aR|exact bq|apply br|apply bb|apply bc|apply bh|apply bu
theorem Kv (cp:List ae)(x:Int):pi cp x=nN cp (pi cp) x:=bA (H3 cp) x
def NG (cp:List ae):Option Bool:=
 bd (ρ:=Bool) (pi cp 0) fun u8:Unit=>some (decide ((len cp)≤16))
def NI (f_1:ae)(a_2:List ae):Option Bool:=
 (sk a_2 f_1).bind fun r3=>some (!r3)
def ox (s_1:List ae)(f_2:(List ae))(self:Int→Option (Int⊕Unit))(x3:Int):Option (Int⊕Unit):=
 bif (decide (x3<(len s_1))) then ((aE s_1 x3).bind fun e4=>(NI e4 f_2).bind fun r5=>bif r5 then (some (.inl x3)) else (self (ac (x3+1)))) else (some (.inr ()))
def uV (s_1:List ae)(f_2:(List ae)): Int→Option (Int⊕Unit):=aJ (ox s_1 f_2)
theorem AR (s_1:List ae)(f_2:(List ae)): ∀a,Fin1 fun f=>ox s_1 f_2 f a:=by
 unfold ox
 repeat first|intro _|exact aR|exact bq|apply br|apply bb|apply bc|apply bh|apply bu
theorem Rv (s_1:List ae)(f_2:(List ae))(x:Int):uV s_1 f_2 x=ox s_1 f_2 (uV s_1 f_2) x:=bA (AR s_1 f_2) x
def Jj (s_1:List ae)(f_2:(List ae)):Option Int:=
 bd (ρ:=Int) (uV s_1 f_2 0) fun u6:Unit=>some (-1)
def Jd (s_1:List ae)(f_2:(List ae)):Option Bool:=
 (Jj s_1 f_2).bind fun r3=>some (decide (r3≥0))
def tf (az:List Int)(self:(Int×Int)→Option (Int⊕Int))(x2:Int×Int):Option (Int⊕Int):=
 bif (decide (x2.2<(len az))) then ((aE az x2.2).bind fun e3=>self ((ac (x2.1+e3)),(ac (x2.2+1)))) else (some (.inr x2.1))
def I6 (az:List Int): (Int×Int)→Option (Int⊕Int):=aJ (tf az)
theorem O0 (az:List Int): ∀a,Fin1 fun f=>tf az f a:=by
 unfold tf
 repeat first|intro _|exact aR|exact bq|apply br|apply bb|apply bc|apply bh|apply bu
def xy (az:List Int):Option Int:=
 bd (ρ:=Int) (I6 az (0,0)) fun u4:Int=>some u4
def NE (x_1:Clause)(a_2:Contract)(a_3:Int):Option Bool:=
 (aE a_2.Clauses a_3).bind fun e4=>some (x_1.Repair==e4.Id)
def ou (s_1:List Clause)(f_2:Contract×Int)(self:Int→Option (Int⊕Unit))(x3:Int):Option (Int⊕Unit):=
 bif (decide (x3<(len s_1))) then ((aE s_1 x3).bind fun e4=>(NE e4 f_2.1 f_2.2).bind fun r5=>bif r5 then (some (.inl x3)) else (self (ac (x3+1)))) else (some (.inr ()))
def uS (s_1:List Clause)(f_2:Contract×Int): Int→Option (Int⊕Unit):=aJ (ou s_1 f_2)
theorem AO (s_1:List Clause)(f_2:Contract×Int): ∀a,Fin1 fun f=>ou s_1 f_2 f a:=by
 unfold ou
 repeat first|intro _|exact aR|exact bq|apply br|apply bb|apply bc|apply bh|apply bu
theorem Rs (s_1:List Clause)(f_2:Contract×Int)(x:Int):uS s_1 f_2 x=ou s_1 f_2 (uS s_1 f_2) x:=bA (AO s_1 f_2) x
def Jg (s_1:List Clause)(f_2:Contract×Int):Option Int:=
 bd (ρ:=Int) (uS s_1 f_2 0) fun u6:Unit=>some (-1)
def Ja (s_1:List Clause)(f_2:Contract×Int):Option Bool:=
 (Jg s_1 (f_2.1,f_2.2)).bind fun r3=>some (decide (r3≥0))
def ND (c_1:Contract)(i_2:Int):Option Bool:=
 (Ja c_1.Clauses (c_1,i_2)).bind fun r3=>some r3
def QB (ko:Duty)(a_2:Duty):Option Bool:=
 some (ko.Clause==a_2.Clause)
def ov (s_1:List Duty)(f_2:Duty)(self:Int→Option (Int⊕Unit))(x3:Int):Option (Int⊕Unit):=
 bif (decide (x3<(len s_1))) then ((aE s_1 x3).bind fun e4=>(QB e4 f_2).bind fun r5=>bif r5 then (some (.inl x3)) else (self (ac (x3+1)))) else (some (.inr ()))
def uT (s_1:List Duty)(f_2:Duty): Int→Option (Int⊕Unit):=aJ (ov s_1 f_2)
theorem AP (s_1:List Duty)(f_2:Duty): ∀a,Fin1 fun f=>ov s_1 f_2 f a:=by
 unfold ov
 repeat first|intro _|exact aR|exact bq|apply br|apply bb|apply bc|apply bh|apply bu
theorem Rt (s_1:List Duty)(f_2:Duty)(x:Int):uT s_1 f_2 x=ov s_1 f_2 (uT s_1 f_2) x:=bA (AP s_1 f_2) x
def Jh (s_1:List Duty)(f_2:Duty):Option Int:=
 bd (ρ:=Int) (uT s_1 f_2 0) fun u6:Unit=>some (-1)
def Jb (s_1:List Duty)(f_2:Duty):Option Bool:=
 (Jh s_1 f_2).bind fun r3=>some (decide (r3≥0))
def NF (c_1:Contract)(s_2:State)(i_3:Int):Option Bool:=
 (aE s_2.Duties i_3).bind fun e4=>(jE e4.Clause 0 (ac ((len c_1.Clauses) - 1))).bind fun r5=>bd (ρ:=Bool) (bif (!r5) then (some (.inr true)) else ((aE c_1.Clauses e4.Clause).bind fun e18=>cj (ρ:=Bool) (bif (e18.Kind != 1) then (some (.inr true)) else ((jE e4.Since 0 s_2.Day).bind fun r20=>some (.inr (!r20)))) fun u19:Bool=>some (.inr u19))) fun u6:Bool=>bif u6 then (some false) else ((aE c_1.Clauses e4.Clause).bind fun e7=>bd (ρ:=Bool) (bif (e4.Due != (ac (e4.Since+e7.Within))) then (some (.inr true)) else ((oP e4.Due).bind fun r14=>cj (ρ:=Bool) (bif (!r14) then (some (.inr true)) else (cj (ρ:=Bool) (bif (decide (i_3>0)) then ((aE s_2.Duties (ac (i_3 - 1))).bind fun e17=>some (.inr (decide (e4.Since<e17.Since)))) else (some (.inr false))) fun u16:Bool=>some (.inr u16))) fun u15:Bool=>some (.inr u15))) fun u8:Bool=>bif u8 then (some false) else ((ND c_1 e4.Clause).bind fun r9=>bd (ρ:=Bool) (bif (!r9) then ((lD s_2.Duties 0 i_3).bind fun s12=>(Jb s12 e4).bind fun r13=>some (.inr r13)) else (some (.inr false))) fun u10:Bool=>bif u10 then (some false) else (bif (e4.Status==1) then (bU (bif (decide (e4.Due≥s_2.Day)) then (!s_2.Over) else false) fun u11:Bool=>some u11) else (bif (e4.Status==2) then (some true) else (bif (e4.Status==3) then (some (decide (e4.Due<s_2.Day))) else (bif (e4.Status==4) then (some s_2.Over) else (some false)))))))
def QA (x_1:Int):Option Bool:=
 (jE x_1 (-1000000000) 1000000000).bind fun r2=>some r2
def B0 (b_1:Int):Option Bool:=
 (QA b_1).bind fun r2=>some (!r2)
def ow (s_1:List Int)(f_2:Unit)(self:Int→Option (Int⊕Unit))(x3:Int):Option (Int⊕Unit):=
 bif (decide (x3<(len s_1))) then ((aE s_1 x3).bind fun e4=>(B0 e4).bind fun r5=>bif r5 then (some (.inl x3)) else (self (ac (x3+1)))) else (some (.inr ()))
def uU (s_1:List Int)(f_2:Unit): Int→Option (Int⊕Unit):=aJ (ow s_1 f_2)
theorem AQ (s_1:List Int)(f_2:Unit): ∀a,Fin1 fun f=>ow s_1 f_2 f a:=by
 unfold ow
 repeat first|intro _|exact aR|exact bq|apply br|apply bb|apply bc|apply bh|apply bu
theorem Ru (s_1:List Int)(f_2:Unit)(x:Int):uU s_1 f_2 x=ow s_1 f_2 (uU s_1 f_2) x:=bA (AQ s_1 f_2) x
def Ji (s_1:List Int)(f_2:Unit):Option Int:=
 bd (ρ:=Int) (uU s_1 f_2 0) fun u6:Unit=>some (-1)
def Jc (s_1:List Int)(f_2:Unit):Option Bool:=
 (Ji s_1 ()).bind fun r3=>some (decide (r3≥0))
def nO (c_1:Contract)(s_2:State)(self:Int→Option (Bool⊕Unit))(x7:Int):Option (Bool⊕Unit):=
 bif (decide (x7<(len s_2.Duties))) then ((NF c_1 s_2 x7).bind fun r8=>bif (!r8) then (some (.inl false)) else (self (ac (x7+1)))) else (some (.inr ()))
def qO (c_1:Contract)(s_2:State): Int→Option (Bool⊕Unit):=aJ (nO c_1 s_2)
theorem H4 (c_1:Contract)(s_2:State): ∀a,Fin1 fun f=>nO c_1 s_2 f a:=by
 unfold nO
 repeat first|intro _|exact aR|exact bq|apply br|apply bb|apply bc|apply bh|apply bu
theorem Kw (c_1:Contract)(s_2:State)(x:Int):qO c_1 s_2 x=nO c_1 s_2 (qO c_1 s_2) x:=bA (H4 c_1 s_2) x
def NH (c_1:Contract)(s_2:State):Option Bool:=
 (Bz c_1).bind fun r3=>(oP s_2.Day).bind fun r4=>bd (ρ:=Bool) (bif (!r4) then (some (.inr true)) else ((NG s_2.Facts).bind fun r13=>cj (ρ:=Bool) (bif (!r13) then (some (.inr true)) else ((Jd s_2.Facts r3).bind fun r15=>some (.inr r15))) fun u14:Bool=>some (.inr u14))) fun u5:Bool=>bif u5 then (some false) else (bd (ρ:=Bool) (bif (decide ((len s_2.Duties)>24)) then (some (.inr true)) else (cj (ρ:=Bool) (bif ((len s_2.Balances) != (len c_1.Parties)) then (some (.inr true)) else ((xy s_2.Balances).bind fun r12=>some (.inr (r12 != 0)))) fun u11:Bool=>some (.inr u11))) fun u6:Bool=>bif u6 then (some false) else (bd (ρ:=Bool) (qO c_1 s_2 0) fun u9:Unit=>(Jc s_2.Balances ()).bind fun r10=>some (!r10)))
def Ko (c_1:Contract)(s_2:State):Option Bool:=
 (MU c_1).bind fun r3=>bd (ρ:=Bool) (bif r3 then ((NH c_1 s_2).bind fun r5=>some (.inr r5)) else (some (.inr false))) fun u4:Bool=>some u4
def Qz (d_1:Duty)(x_2:Clause)(a_3:Int):Option Bool:=
 some (decide (d_1.Due<a_3))
def Mo (x_1:Int):Option Bool:=
 some (x_1 != x_1)
def Mn (x_1:Int)(y_2:Int):Option Int:=
 (Mo x_1).bind fun r3=>(Mo y_2).bind fun r4=>bif r3 then (bif r4 then (some 0) else (some (-1))) else (bif r4 then (some 1) else (bif (decide (x_1<y_2)) then (some (-1)) else (bif (decide (x_1>y_2)) then (some 1) else (some 0))))
def Bx (i_1:Int)(k_2:Int)(a_3:State):Option Int:=
 (aE a_3.Duties i_1).bind fun e4=>(aE a_3.Duties k_2).bind fun e5=>(Mn e4.Due e5.Due).bind fun r6=>some r6
def kw (cC:List Int)(eO:Int)(eV:Int)(cZ:State)(x5:Int×Int×Int×(List Int))(self:(Int×(List Int))→Option ((List Int)⊕(List Int)))(x6:Int×(List Int)):Option ((List Int)⊕(List Int)):=
 cj (ρ:=(List Int)) (bif (decide (x6.1>x5.1)) then ((aE x6.2 x6.1).bind fun e18=>(aE x6.2 (ac (x6.1 - 1))).bind fun e19=>(Bx e18 e19 cZ).bind fun r20=>some (.inr (decide (r20<0)))) else (some (.inr false))) fun u7:Bool=>bif u7 then ((aE x6.2 (ac (x6.1 - 1))).bind fun e8=>(aE x6.2 x6.1).bind fun e9=>(aE x6.2 x6.1).bind fun e10=>(aE (bI x6.2 x6.1 e8) (ac (x6.1 - 1))).bind fun e13=>bU (bI (bI x6.2 x6.1 e8) (ac (x6.1 - 1)) e9) fun rw14:List Int=>self ((ac (x6.1 - 1)),rw14)) else (some (.inr x6.2))
def lj (cC:List Int)(eO:Int)(eV:Int)(cZ:State)(x5:Int×Int×Int×(List Int)):(Int×(List Int))→Option ((List Int)⊕(List Int)):=aJ (kw cC eO eV cZ x5)
theorem AW (cC:List Int)(eO:Int)(eV:Int)(cZ:State)(x5:Int×Int×Int×(List Int)):∀a,Fin1 fun f=>kw cC eO eV cZ x5 f a:=by
 unfold kw
 repeat first|intro _|exact aR|exact bq|apply br|apply bb|apply bc|apply bh|apply bu
theorem wd (cC:List Int)(eO:Int)(eV:Int)(cZ:State)(x5:Int×Int×Int×(List Int))(x:Int×(List Int)):lj cC eO eV cZ x5 x=kw cC eO eV cZ x5 (lj cC eO eV cZ x5) x:=bA (AW cC eO eV cZ x5) x
def kv (cC:List Int)(eO:Int)(eV:Int)(cZ:State)(self:(Int×Int×Int×(List Int))→Option ((List Int)⊕(List Int)))(x5:Int×Int×Int×(List Int)):Option ((List Int)⊕(List Int)):=
 bif (decide (x5.2.2.1<x5.2.1)) then (cj (ρ:=(List Int)) (lj cC eO eV cZ x5 (x5.2.2.1,x5.2.2.2)) fun u21:(List Int)=>self (x5.1,x5.2.1,(ac (x5.2.2.1+1)),u21)) else (some (.inr x5.2.2.2))
def mI (cC:List Int)(eO:Int)(eV:Int)(cZ:State): (Int×Int×Int×(List Int))→Option ((List Int)⊕(List Int)):=aJ (kv cC eO eV cZ)
theorem AV (cC:List Int)(eO:Int)(eV:Int)(cZ:State): ∀a,Fin1 fun f=>kv cC eO eV cZ f a:=by
 unfold kv
 repeat first|intro _|exact aR|exact bq|apply br|apply bb|apply bc|apply bh|apply bu
theorem wc (cC:List Int)(eO:Int)(eV:Int)(cZ:State)(x:Int×Int×Int×(List Int)):mI cC eO eV cZ x=kv cC eO eV cZ (mI cC eO eV cZ) x:=bA (AV cC eO eV cZ) x
def sr (cC:List Int)(eO:Int)(eV:Int)(cZ:State):Option (List Int):=
 bd (ρ:=(List Int)) (mI cC eO eV cZ (eO,eV,(ac (eO+1)),cC)) fun u22:(List Int)=>bif Nat.beq u22.length cC.length then (some u22) else none
def lZ (ez:List Int)(fj:Int)(f8:Int)(ig:Int)(fO:State)(self:(Int×(List Int))→Option ((List Int)⊕(List Int)))(x6:Int×(List Int)):Option ((List Int)⊕(List Int)):=
 bif (decide (x6.1<ig)) then ((aE x6.2 (ac (f8+x6.1))).bind fun e7=>(aE x6.2 (ac (fj+x6.1))).bind fun e8=>(aE x6.2 (ac (fj+x6.1))).bind fun e9=>(aE (bI x6.2 (ac (fj+x6.1)) e7) (ac (f8+x6.1))).bind fun e12=>bU (bI (bI x6.2 (ac (fj+x6.1)) e7) (ac (f8+x6.1)) e8) fun rw13:List Int=>self ((ac (x6.1+1)),rw13)) else (some (.inr x6.2))
def mJ (ez:List Int)(fj:Int)(f8:Int)(ig:Int)(fO:State): (Int×(List Int))→Option ((List Int)⊕(List Int)):=aJ (lZ ez fj f8 ig fO)
theorem A6 (ez:List Int)(fj:Int)(f8:Int)(ig:Int)(fO:State): ∀a,Fin1 fun f=>lZ ez fj f8 ig fO f a:=by
 unfold lZ
 repeat first|intro _|exact aR|exact bq|apply br|apply bb|apply bc|apply bh|apply bu
theorem Gt (ez:List Int)(fj:Int)(f8:Int)(ig:Int)(fO:State)(x:Int×(List Int)):mJ ez fj f8 ig fO x=lZ ez fj f8 ig fO (mJ ez fj f8 ig fO) x:=bA (A6 ez fj f8 ig fO) x
def wg (ez:List Int)(fj:Int)(f8:Int)(ig:Int)(fO:State):Option (List Int):=
 bd (ρ:=(List Int)) (mJ ez fj f8 ig fO (0,ez)) fun u17:(List Int)=>bif Nat.beq u17.length ez.length then (some u17) else none
def oz (eT:List Int)(a_9:Int)(fb:Int)(gV:Int)(ep:State)(self:(Int×Int×(List Int))→Option ((List Int)⊕(Int×Int×(List Int))))(x6:Int×Int×(List Int)):Option ((List Int)⊕(Int×Int×(List Int))):=
 bif (x6.1 != x6.2.1) then (cj (ρ:=(List Int)) (bif (decide (x6.1>x6.2.1)) then ((wg x6.2.2 (ac (fb - x6.1)) fb x6.2.1 ep).bind fun r8=>bif Nat.beq r8.length x6.2.2.length then (some (.inr ((ac (x6.1 - x6.2.1)),x6.2.1,r8))) else none) else ((wg x6.2.2 (ac (fb - x6.1)) (ac ((ac (fb+x6.2.1)) - x6.1)) x6.1 ep).bind fun r10=>bif Nat.beq r10.length x6.2.2.length then (some (.inr (x6.1,(ac (x6.2.1 - x6.1)),r10))) else none)) fun u7:Int×Int×(List Int)=>self (u7.1,u7.2.1,u7.2.2)) else (some (.inr (fb,x6.1,x6.2.2)))
def uW (eT:List Int)(a_9:Int)(fb:Int)(gV:Int)(ep:State): (Int×Int×(List Int))→Option ((List Int)⊕(Int×Int×(List Int))):=aJ (oz eT a_9 fb gV ep)
theorem AX (eT:List Int)(a_9:Int)(fb:Int)(gV:Int)(ep:State): ∀a,Fin1 fun f=>oz eT a_9 fb gV ep f a:=by
 unfold oz
 repeat first|intro _|exact aR|exact bq|apply br|apply bb|apply bc|apply bh|apply bu
theorem Rx (eT:List Int)(a_9:Int)(fb:Int)(gV:Int)(ep:State)(x:Int×Int×(List Int)):uW eT a_9 fb gV ep x=oz eT a_9 fb gV ep (uW eT a_9 fb gV ep) x:=bA (AX eT a_9 fb gV ep) x
def yb (eT:List Int)(a_9:Int)(fb:Int)(gV:Int)(ep:State):Option (List Int):=
 bd (ρ:=(List Int)) (uW eT a_9 fb gV ep ((ac (fb - a_9)),(ac (gV - fb)),eT)) fun u12:Int×Int×(List Int)=>(wg u12.2.2 (ac (u12.1 - u12.2.1)) u12.1 u12.2.1 ep).bind fun r13=>bif Nat.beq r13.length u12.2.2.length then (bif Nat.beq r13.length eT.length then (some r13) else none) else none
def js (aA:((List Int)×Int×Int×Int×State)→Option (List Int))(ao:List Int)(aX:Int)(aY:Int)(be:Int)(aG:State)(self:(Int×Int)→Option ((List Int)⊕(Int×Int×(List Int))))(x6:Int×Int):Option ((List Int)⊕(Int×Int×(List Int))):=
 bif (decide (x6.1<x6.2)) then ((aE ao (IntKind.i64.wrap (ek .u64 (IntKind.u64.wrap (ac (x6.1+x6.2))) 1))).bind fun e7=>(aE ao aX).bind fun e8=>(Bx e7 e8 aG).bind fun r9=>bU (bif (decide (r9<0)) then ((ac ((IntKind.i64.wrap (ek .u64 (IntKind.u64.wrap (ac (x6.1+x6.2))) 1))+1)),x6.2) else (x6.1,(IntKind.i64.wrap (ek .u64 (IntKind.u64.wrap (ac (x6.1+x6.2))) 1)))) fun u10:Int×Int=>self (u10.1,u10.2)) else (some (.inr (aX,x6.1,ao)))
def pT (aA:((List Int)×Int×Int×Int×State)→Option (List Int))(ao:List Int)(aX:Int)(aY:Int)(be:Int)(aG:State): (Int×Int)→Option ((List Int)⊕(Int×Int×(List Int))):=aJ (js aA ao aX aY be aG)
theorem A7 (aA:((List Int)×Int×Int×Int×State)→Option (List Int))(ao:List Int)(aX:Int)(aY:Int)(be:Int)(aG:State): ∀a,Fin1 fun f=>js aA ao aX aY be aG f a:=by
 unfold js
 repeat first|intro _|exact aR|exact bq|apply br|apply bb|apply bc|apply bh|apply bu
theorem Gu (aA:((List Int)×Int×Int×Int×State)→Option (List Int))(ao:List Int)(aX:Int)(aY:Int)(be:Int)(aG:State)(x:Int×Int):pT aA ao aX aY be aG x=js aA ao aX aY be aG (pT aA ao aX aY be aG) x:=bA (A7 aA ao aX aY be aG) x
def jt (aA:((List Int)×Int×Int×Int×State)→Option (List Int))(ao:List Int)(aX:Int)(aY:Int)(be:Int)(aG:State)(u11:Int×Int×(List Int))(self:(Int×(List Int))→Option ((List Int)⊕(List Int)))(x12:Int×(List Int)):Option ((List Int)⊕(List Int)):=
 bif (decide (x12.1<(ac (u11.2.1 - 1)))) then ((aE x12.2 (ac (x12.1+1))).bind fun e13=>(aE x12.2 x12.1).bind fun e14=>(aE x12.2 x12.1).bind fun e15=>(aE (bI x12.2 x12.1 e13) (ac (x12.1+1))).bind fun e18=>bU (bI (bI x12.2 x12.1 e13) (ac (x12.1+1)) e14) fun rw19:List Int=>self ((ac (x12.1+1)),rw19)) else (some (.inr x12.2))
def jV (aA:((List Int)×Int×Int×Int×State)→Option (List Int))(ao:List Int)(aX:Int)(aY:Int)(be:Int)(aG:State)(u11:Int×Int×(List Int)):(Int×(List Int))→Option ((List Int)⊕(List Int)):=aJ (jt aA ao aX aY be aG u11)
theorem A8 (aA:((List Int)×Int×Int×Int×State)→Option (List Int))(ao:List Int)(aX:Int)(aY:Int)(be:Int)(aG:State)(u11:Int×Int×(List Int)):∀a,Fin1 fun f=>jt aA ao aX aY be aG u11 f a:=by
 unfold jt
 repeat first|intro _|exact aR|exact bq|apply br|apply bb|apply bc|apply bh|apply bu
theorem Gv (aA:((List Int)×Int×Int×Int×State)→Option (List Int))(ao:List Int)(aX:Int)(aY:Int)(be:Int)(aG:State)(u11:Int×Int×(List Int))(x:Int×(List Int)):jV aA ao aX aY be aG u11 x=jt aA ao aX aY be aG u11 (jV aA ao aX aY be aG u11) x:=bA (A8 aA ao aX aY be aG u11) x
def ju (aA:((List Int)×Int×Int×Int×State)→Option (List Int))(ao:List Int)(aX:Int)(aY:Int)(be:Int)(aG:State)(self:(Int×Int)→Option ((List Int)⊕(Int×Int×(List Int))))(x25:Int×Int):Option ((List Int)⊕(Int×Int×(List Int))):=
 bif (decide (x25.1<x25.2)) then ((aE ao aY).bind fun e26=>(aE ao (IntKind.i64.wrap (ek .u64 (IntKind.u64.wrap (ac (x25.1+x25.2))) 1))).bind fun e27=>(Bx e26 e27 aG).bind fun r28=>bU (bif (!(decide (r28<0))) then ((ac ((IntKind.i64.wrap (ek .u64 (IntKind.u64.wrap (ac (x25.1+x25.2))) 1))+1)),x25.2) else (x25.1,(IntKind.i64.wrap (ek .u64 (IntKind.u64.wrap (ac (x25.1+x25.2))) 1)))) fun u29:Int×Int=>self (u29.1,u29.2)) else (some (.inr (aY,x25.1,ao)))
def pU (aA:((List Int)×Int×Int×Int×State)→Option (List Int))(ao:List Int)(aX:Int)(aY:Int)(be:Int)(aG:State): (Int×Int)→Option ((List Int)⊕(Int×Int×(List Int))):=aJ (ju aA ao aX aY be aG)
theorem A9 (aA:((List Int)×Int×Int×Int×State)→Option (List Int))(ao:List Int)(aX:Int)(aY:Int)(be:Int)(aG:State): ∀a,Fin1 fun f=>ju aA ao aX aY be aG f a:=by
 unfold ju
 repeat first|intro _|exact aR|exact bq|apply br|apply bb|apply bc|apply bh|apply bu
theorem Gw (aA:((List Int)×Int×Int×Int×State)→Option (List Int))(ao:List Int)(aX:Int)(aY:Int)(be:Int)(aG:State)(x:Int×Int):pU aA ao aX aY be aG x=ju aA ao aX aY be aG (pU aA ao aX aY be aG) x:=bA (A9 aA ao aX aY be aG) x
def jv (aA:((List Int)×Int×Int×Int×State)→Option (List Int))(ao:List Int)(aX:Int)(aY:Int)(be:Int)(aG:State)(u30:Int×Int×(List Int))(self:(Int×(List Int))→Option ((List Int)⊕(List Int)))(x31:Int×(List Int)):Option ((List Int)⊕(List Int)):=
 bif (decide (x31.1>u30.2.1)) then ((aE x31.2 (ac (x31.1 - 1))).bind fun e32=>(aE x31.2 x31.1).bind fun e33=>(aE x31.2 x31.1).bind fun e34=>(aE (bI x31.2 x31.1 e32) (ac (x31.1 - 1))).bind fun e37=>bU (bI (bI x31.2 x31.1 e32) (ac (x31.1 - 1)) e33) fun rw38:List Int=>self ((ac (x31.1 - 1)),rw38)) else (some (.inr x31.2))
def jW (aA:((List Int)×Int×Int×Int×State)→Option (List Int))(ao:List Int)(aX:Int)(aY:Int)(be:Int)(aG:State)(u30:Int×Int×(List Int)):(Int×(List Int))→Option ((List Int)⊕(List Int)):=aJ (jv aA ao aX aY be aG u30)
theorem Ba (aA:((List Int)×Int×Int×Int×State)→Option (List Int))(ao:List Int)(aX:Int)(aY:Int)(be:Int)(aG:State)(u30:Int×Int×(List Int)):∀a,Fin1 fun f=>jv aA ao aX aY be aG u30 f a:=by
 unfold jv
 repeat first|intro _|exact aR|exact bq|apply br|apply bb|apply bc|apply bh|apply bu
theorem Gx (aA:((List Int)×Int×Int×Int×State)→Option (List Int))(ao:List Int)(aX:Int)(aY:Int)(be:Int)(aG:State)(u30:Int×Int×(List Int))(x:Int×(List Int)):jW aA ao aX aY be aG u30 x=jv aA ao aX aY be aG u30 (jW aA ao aX aY be aG u30) x:=bA (Ba aA ao aX aY be aG u30) x
def ky (aA:((List Int)×Int×Int×Int×State)→Option (List Int))(ao:List Int)(aX:Int)(aY:Int)(be:Int)(aG:State)(self:(Int×Int)→Option ((List Int)⊕(Int×Int×Int×Int)))(x45:Int×Int):Option ((List Int)⊕(Int×Int×Int×Int)):=
 bif (decide (x45.1<x45.2)) then ((aE ao (ac ((ac ((ac ((IntKind.i64.wrap (ek .u64 (IntKind.u64.wrap (ac (aX+be))) 1))+aY)) - 1)) - (IntKind.i64.wrap (ek .u64 (IntKind.u64.wrap (ac (x45.1+x45.2))) 1))))).bind fun e46=>(aE ao (IntKind.i64.wrap (ek .u64 (IntKind.u64.wrap (ac (x45.1+x45.2))) 1))).bind fun e47=>(Bx e46 e47 aG).bind fun r48=>bU (bif (!(decide (r48<0))) then ((ac ((IntKind.i64.wrap (ek .u64 (IntKind.u64.wrap (ac (x45.1+x45.2))) 1))+1)),x45.2) else (x45.1,(IntKind.i64.wrap (ek .u64 (IntKind.u64.wrap (ac (x45.1+x45.2))) 1)))) fun u49:Int×Int=>self (u49.1,u49.2)) else (some (.inr (be,(IntKind.i64.wrap (ek .u64 (IntKind.u64.wrap (ac (aX+be))) 1)),(ac ((IntKind.i64.wrap (ek .u64 (IntKind.u64.wrap (ac (aX+be))) 1))+aY)),x45.1)))
def rV (aA:((List Int)×Int×Int×Int×State)→Option (List Int))(ao:List Int)(aX:Int)(aY:Int)(be:Int)(aG:State): (Int×Int)→Option ((List Int)⊕(Int×Int×Int×Int)):=aJ (ky aA ao aX aY be aG)
theorem Bb (aA:((List Int)×Int×Int×Int×State)→Option (List Int))(ao:List Int)(aX:Int)(aY:Int)(be:Int)(aG:State): ∀a,Fin1 fun f=>ky aA ao aX aY be aG f a:=by
 unfold ky
 repeat first|intro _|exact aR|exact bq|apply br|apply bb|apply bc|apply bh|apply bu
theorem Gy (aA:((List Int)×Int×Int×Int×State)→Option (List Int))(ao:List Int)(aX:Int)(aY:Int)(be:Int)(aG:State)(x:Int×Int):rV aA ao aX aY be aG x=ky aA ao aX aY be aG (rV aA ao aX aY be aG) x:=bA (Bb aA ao aX aY be aG) x
def vb (aA:((List Int)×Int×Int×Int×State)→Option (List Int))(ao:List Int)(aX:Int)(aY:Int)(be:Int)(aG:State):Option (List Int):=
 bif ((ac (aY - aX))==1) then (bd (ρ:=(List Int)) (pT aA ao aX aY be aG (aY,be)) fun u11:Int×Int×(List Int)=>bd (ρ:=(List Int)) (jV aA ao aX aY be aG u11 (u11.1,u11.2.2)) fun u23:(List Int)=>bif Nat.beq u23.length ao.length then (some u23) else none) else (bif ((ac (be - aY))==1) then (bd (ρ:=(List Int)) (pU aA ao aX aY be aG (aX,aY)) fun u30:Int×Int×(List Int)=>bd (ρ:=(List Int)) (jW aA ao aX aY be aG u30 (u30.1,u30.2.2)) fun u42:(List Int)=>bif Nat.beq u42.length ao.length then (some u42) else none) else (bU (bif (decide (aY>(IntKind.i64.wrap (ek .u64 (IntKind.u64.wrap (ac (aX+be))) 1)))) then ((ac ((ac ((IntKind.i64.wrap (ek .u64 (IntKind.u64.wrap (ac (aX+be))) 1))+aY)) - be)),(IntKind.i64.wrap (ek .u64 (IntKind.u64.wrap (ac (aX+be))) 1))) else (aX,aY)) fun u44:Int×Int=>bd (ρ:=(List Int)) (rV aA ao aX aY be aG (u44.1,u44.2)) fun u50:Int×Int×Int×Int=>bU (bif (decide (u50.2.2.2<aY)) then (decide (aY<(ac (u50.2.2.1 - u50.2.2.2)))) else false) fun u51:Bool=>bd (ρ:=(List Int)) (bif u51 then ((yb ao u50.2.2.2 aY (ac (u50.2.2.1 - u50.2.2.2)) aG).bind fun r62=>bif Nat.beq r62.length ao.length then (some (.inr r62)) else none) else (some (.inr ao))) fun u52:(List Int)=>bU (bif (decide (aX<u50.2.2.2)) then (decide (u50.2.2.2<u50.2.1)) else false) fun u53:Bool=>bd (ρ:=(List Int)) (bif u53 then ((aA (u52,aX,u50.2.2.2,u50.2.1,aG)).bind fun r60=>bif Nat.beq r60.length u52.length then (some (.inr r60)) else none) else (some (.inr u52))) fun u54:(List Int)=>bU (bif (decide (u50.2.1<(ac (u50.2.2.1 - u50.2.2.2)))) then (decide ((ac (u50.2.2.1 - u50.2.2.2))<u50.1)) else false) fun u55:Bool=>bd (ρ:=(List Int)) (bif u55 then ((aA (u54,u50.2.1,(ac (u50.2.2.1 - u50.2.2.2)),u50.1,aG)).bind fun r58=>bif Nat.beq r58.length u54.length then (some (.inr r58)) else none) else (some (.inr u54))) fun u56:(List Int)=>bif Nat.beq u56.length ao.length then (some u56) else none))
def fW (aA:((List Int)×Int×Int×Int×State)→Option (List Int))(x:(List Int)×Int×Int×Int×State):Option (List Int):=vb aA x.1 x.2.1 x.2.2.1 x.2.2.2.1 x.2.2.2.2
def Jk (ao:List Int)(aX:Int)(aY:Int)(be:Int)(aG:State):Option (List Int):=aJ fW (ao,aX,aY,be,aG)
theorem YX:∀x,Fin1 fun aA=>fW aA x:=by
 unfold fW vb
 repeat first|intro _|exact aR|exact bq|exact jm|exact lw|exact iM|exact jI|exact i8|exact i9|apply br|apply bb|apply bc|apply bh|apply bu|apply qy|unfold pT|unfold js|unfold jV|unfold jt|unfold pT|unfold js|unfold jV|unfold jt|unfold pU|unfold ju|unfold jW|unfold jv|unfold pU|unfold ju|unfold jW|unfold jv|unfold rV|unfold ky
theorem abC (ao:List Int)(aX:Int)(aY:Int)(be:Int)(aG:State):Jk ao aX aY be aG=vb (aJ fW) ao aX aY be aG:=bA YX (ao,aX,aY,be,aG)
def kx (cd:List Int)(n_7:Int)(cl:State)(self:(Int×Int×(List Int))→Option ((List Int)⊕(Int×Int×(List Int))))(x4:Int×Int×(List Int)):Option ((List Int)⊕(Int×Int×(List Int))):=
 bif (decide (x4.2.1≤n_7)) then ((sr x4.2.2 x4.1 x4.2.1 cl).bind fun r5=>bif Nat.beq r5.length x4.2.2.length then (self (x4.2.1,(ac (x4.2.1+20)),r5)) else none) else (some (.inr (n_7,x4.1,x4.2.2)))
def uY (cd:List Int)(n_7:Int)(cl:State): (Int×Int×(List Int))→Option ((List Int)⊕(Int×Int×(List Int))):=aJ (kx cd n_7 cl)
theorem AY (cd:List Int)(n_7:Int)(cl:State): ∀a,Fin1 fun f=>kx cd n_7 cl f a:=by
 unfold kx
 repeat first|intro _|exact aR|exact bq|apply br|apply bb|apply bc|apply bh|apply bu
theorem we (cd:List Int)(n_7:Int)(cl:State)(x:Int×Int×(List Int)):uY cd n_7 cl x=kx cd n_7 cl (uY cd n_7 cl) x:=bA (AY cd n_7 cl) x
def oB (cd:List Int)(n_7:Int)(cl:State)(u7:Int×Int×(List Int))(x10:Int×(List Int))(self:(Int×Int×(List Int))→Option ((List Int)⊕(Int×(List Int))))(x11:Int×Int×(List Int)):Option ((List Int)⊕(Int×(List Int))):=
 bif (decide (x11.2.1≤u7.1)) then ((Jk x11.2.2 x11.1 (ac (x11.1+x10.1)) x11.2.1 cl).bind fun r12=>bif Nat.beq r12.length x11.2.2.length then (self (x11.2.1,(ac (x11.2.1+(ac (2*x10.1)))),r12)) else none) else (some (.inr (x11.1,x11.2.2)))
def va (cd:List Int)(n_7:Int)(cl:State)(u7:Int×Int×(List Int))(x10:Int×(List Int)):(Int×Int×(List Int))→Option ((List Int)⊕(Int×(List Int))):=aJ (oB cd n_7 cl u7 x10)
theorem A5 (cd:List Int)(n_7:Int)(cl:State)(u7:Int×Int×(List Int))(x10:Int×(List Int)):∀a,Fin1 fun f=>oB cd n_7 cl u7 x10 f a:=by
 unfold oB
 repeat first|intro _|exact aR|exact bq|apply br|apply bb|apply bc|apply bh|apply bu
theorem Ry (cd:List Int)(n_7:Int)(cl:State)(u7:Int×Int×(List Int))(x10:Int×(List Int))(x:Int×Int×(List Int)):va cd n_7 cl u7 x10 x=oB cd n_7 cl u7 x10 (va cd n_7 cl u7 x10) x:=bA (A5 cd n_7 cl u7 x10) x
def jr (cd:List Int)(n_7:Int)(cl:State)(u7:Int×Int×(List Int))(self:(Int×(List Int))→Option ((List Int)⊕(List Int)))(x10:Int×(List Int)):Option ((List Int)⊕(List Int)):=
 bif (decide (x10.1<u7.1)) then (cj (ρ:=(List Int)) (va cd n_7 cl u7 x10 (0,(ac (2*x10.1)),x10.2)) fun u14:Int×(List Int)=>cj (ρ:=(List Int)) (bif (decide ((ac (u14.1+x10.1))<u7.1)) then ((Jk u14.2 u14.1 (ac (u14.1+x10.1)) u7.1 cl).bind fun r16=>bif Nat.beq r16.length u14.2.length then (some (.inr r16)) else none) else (some (.inr u14.2))) fun u15:(List Int)=>self ((ac (x10.1*2)),u15)) else (some (.inr x10.2))
def uZ (cd:List Int)(n_7:Int)(cl:State)(u7:Int×Int×(List Int)):(Int×(List Int))→Option ((List Int)⊕(List Int)):=aJ (jr cd n_7 cl u7)
theorem AZ (cd:List Int)(n_7:Int)(cl:State)(u7:Int×Int×(List Int)):∀a,Fin1 fun f=>jr cd n_7 cl u7 f a:=by
 unfold jr
 repeat first|intro _|exact aR|exact bq|apply br|apply bb|apply bc|apply bh|apply bu
theorem ru (cd:List Int)(n_7:Int)(cl:State)(u7:Int×Int×(List Int))(x:Int×(List Int)):uZ cd n_7 cl u7 x=jr cd n_7 cl u7 (uZ cd n_7 cl u7) x:=bA (AZ cd n_7 cl u7) x
def Dd (cd:List Int)(n_7:Int)(cl:State):Option (List Int):=
 bd (ρ:=(List Int)) (uY cd n_7 cl (0,20,cd)) fun u7:Int×Int×(List Int)=>(sr u7.2.2 u7.2.1 u7.1 cl).bind fun r8=>bif Nat.beq r8.length u7.2.2.length then (bd (ρ:=(List Int)) (uZ cd n_7 cl u7 (20,r8)) fun u18:(List Int)=>bif Nat.beq u18.length cd.length then (some u18) else none) else none
def v8 (x_3:List Int)(qv:State):Option (List Int):=
 (Dd x_3 (len x_3) qv).bind fun r3=>bif Nat.beq r3.length x_3.length then (bif Nat.beq r3.length x_3.length then (some r3) else none) else none
def nL (c_1:Contract)(s_2:State)(d9:Int)(self:(Int×(List Int))→Option ((List Int)⊕(List Int)))(x4:Int×(List Int)):Option ((List Int)⊕(List Int)):=
 bif (decide (x4.1<(len s_2.Duties))) then ((aE s_2.Duties x4.1).bind fun e5=>cj (ρ:=(List Int)) (bif (e5.Status==1) then ((aE c_1.Clauses e5.Clause).bind fun e9=>(Qz e5 e9 d9).bind fun r10=>some (.inr r10)) else (some (.inr false))) fun u6:Bool=>cj (ρ:=(List Int)) (bif u6 then ((iX 8 x4.2 [x4.1]).bind fun a8=>some (.inr a8)) else (some (.inr x4.2))) fun u7:(List Int)=>self ((ac (x4.1+1)),u7)) else (some (.inr x4.2))
def qM (c_1:Contract)(s_2:State)(d9:Int): (Int×(List Int))→Option ((List Int)⊕(List Int)):=aJ (nL c_1 s_2 d9)
theorem HZ (c_1:Contract)(s_2:State)(d9:Int): ∀a,Fin1 fun f=>nL c_1 s_2 d9 f a:=by
 unfold nL
 repeat first|intro _|exact aR|exact bq|apply br|apply bb|apply bc|apply bh|apply bu
theorem Kt (c_1:Contract)(s_2:State)(d9:Int)(x:Int×(List Int)):qM c_1 s_2 d9 x=nL c_1 s_2 d9 (qM c_1 s_2 d9) x:=bA (HZ c_1 s_2 d9) x
def Ny (c_1:Contract)(s_2:State)(d9:Int):Option (List Int):=
 bd (ρ:=(List Int)) (qM c_1 s_2 d9 (0,[])) fun u11:(List Int)=>(v8 u11 s_2).bind fun r12=>bif Nat.beq r12.length u11.length then (some r12) else none
def Kp (c_1:Contract)(s_2:State)(dB:Int):Option ((List Int)×Bool):=
 (Ko c_1 s_2).bind fun r4=>bd (ρ:=(List Int)×Bool) (bif (!r4) then (some (.inr true)) else ((oP dB).bind fun r7=>some (.inr (!r7)))) fun u5:Bool=>bif u5 then (some ([],false)) else ((Ny c_1 s_2 dB).bind fun r6=>some (r6,true))
def oa (a_1:List Int)(b_2:List Int)(self:Int→Option (Bool⊕Unit))(x3:Int):Option (Bool⊕Unit):=
 bif (decide (x3<(len a_1))) then ((aE a_1 x3).bind fun e4=>(aE b_2 x3).bind fun e5=>bif (e4 != e5) then (some (.inl false)) else (self (ac (x3+1)))) else (some (.inr ()))
def uz (a_1:List Int)(b_2:List Int): Int→Option (Bool⊕Unit):=aJ (oa a_1 b_2)
theorem Aq (a_1:List Int)(b_2:List Int): ∀a,Fin1 fun f=>oa a_1 b_2 f a:=by
 unfold oa
 repeat first|intro _|exact aR|exact bq|apply br|apply bb|apply bc|apply bh|apply bu
theorem Rf (a_1:List Int)(b_2:List Int)(x:Int):uz a_1 b_2 x=oa a_1 b_2 (uz a_1 b_2) x:=bA (Aq a_1 b_2) x
def tS (a_1:List Int)(b_2:List Int):Option Bool:=
 bif ((len a_1) != (len b_2)) then (some false) else (bd (ρ:=Bool) (uz a_1 b_2 0) fun u6:Unit=>some true)
def ob (a_1:List ae)(b_2:List ae)(self:Int→Option (Bool⊕Unit))(x3:Int):Option (Bool⊕Unit):=
 bif (decide (x3<(len a_1))) then ((aE a_1 x3).bind fun e4=>(aE b_2 x3).bind fun e5=>bif (!(e4==e5)) then (some (.inl false)) else (self (ac (x3+1)))) else (some (.inr ()))
def uA (a_1:List ae)(b_2:List ae): Int→Option (Bool⊕Unit):=aJ (ob a_1 b_2)
theorem Ar (a_1:List ae)(b_2:List ae): ∀a,Fin1 fun f=>ob a_1 b_2 f a:=by
 unfold ob
 repeat first|intro _|exact aR|exact bq|apply br|apply bb|apply bc|apply bh|apply bu
theorem Rg (a_1:List ae)(b_2:List ae)(x:Int):uA a_1 b_2 x=ob a_1 b_2 (uA a_1 b_2) x:=bA (Ar a_1 b_2) x
def xE (a_1:List ae)(b_2:List ae):Option Bool:=
 bif ((len a_1) != (len b_2)) then (some false) else (bd (ρ:=Bool) (uA a_1 b_2 0) fun u6:Unit=>some true)
def lM (bz:(Condition×Condition)→Option Bool)(a_1:List Condition)(b_2:List Condition)(self:Int→Option (Bool⊕Unit))(x3:Int):Option (Bool⊕Unit):=
 bif (decide (x3<(len a_1))) then ((aE a_1 x3).bind fun e4=>(aE b_2 x3).bind fun e5=>(bz (e4,e5)).bind fun r6=>bif (!r6) then (some (.inl false)) else (self (ac (x3+1)))) else (some (.inr ()))
def rQ (bz:(Condition×Condition)→Option Bool)(a_1:List Condition)(b_2:List Condition): Int→Option (Bool⊕Unit):=aJ (lM bz a_1 b_2)
theorem Ao (bz:(Condition×Condition)→Option Bool)(a_1:List Condition)(b_2:List Condition): ∀a,Fin1 fun f=>lM bz a_1 b_2 f a:=by
 unfold lM
 repeat first|intro _|exact aR|exact bq|apply br|apply bb|apply bc|apply bh|apply bu
theorem Rc (bz:(Condition×Condition)→Option Bool)(a_1:List Condition)(b_2:List Condition)(x:Int):rQ bz a_1 b_2 x=lM bz a_1 b_2 (rQ bz a_1 b_2) x:=bA (Ao bz a_1 b_2) x
def xC (bz:(Condition×Condition)→Option Bool)(a_1:List Condition)(b_2:List Condition):Option Bool:=
 bif ((len a_1) != (len b_2)) then (some false) else (bd (ρ:=Bool) (rQ bz a_1 b_2 0) fun u7:Unit=>some true)
def uu (bz:(Condition×Condition)→Option Bool)(a_1:Condition)(b_2:Condition):Option Bool:=
 bif (a_1.Op != b_2.Op) then (some false) else (bif (!(a_1.Name==b_2.Name)) then (some false) else (bif (a_1.Day != b_2.Day) then (some false) else ((xC bz a_1.Parts b_2.Parts).bind fun r3=>bif (!r3) then (some false) else (some true))))
def qH (bz:(Condition×Condition)→Option Bool)(x:Condition×Condition):Option Bool:=uu bz x.1 x.2
def Ca (a_1:Condition)(b_2:Condition):Option Bool:=aJ qH (a_1,b_2)
theorem XZ:∀x,Fin1 fun bz=>qH bz x:=by
 unfold qH uu
 repeat first|intro _|exact aR|exact bq|exact jm|exact lw|exact iM|exact jI|exact i8|exact i9|apply br|apply bb|apply bc|apply bh|apply bu|apply qy|unfold xC|unfold rQ|unfold lM
theorem abv (a_1:Condition)(b_2:Condition):Ca a_1 b_2=uu (aJ qH) a_1 b_2:=bA XZ (a_1,b_2)
def xz (a_1:Clause)(b_2:Clause):Option Bool:=
 bif (!(a_1.Id==b_2.Id)) then (some false) else (bif (a_1.Kind != b_2.Kind) then (some false) else (bif (a_1.Party != b_2.Party) then (some false) else (bif (!(a_1.Action==b_2.Action)) then (some false) else (bif (a_1.Other != b_2.Other) then (some false) else (bif (a_1.Amount != b_2.Amount) then (some false) else ((Ca a_1.When b_2.When).bind fun r3=>bif (!r3) then (some false) else (bif (a_1.Within != b_2.Within) then (some false) else (bif (!(a_1.Repair==b_2.Repair)) then (some false) else (some true)))))))))
def nY (a_1:List Clause)(b_2:List Clause)(self:Int→Option (Bool⊕Unit))(x3:Int):Option (Bool⊕Unit):=
 bif (decide (x3<(len a_1))) then ((aE a_1 x3).bind fun e4=>(aE b_2 x3).bind fun e5=>(xz e4 e5).bind fun r6=>bif (!r6) then (some (.inl false)) else (self (ac (x3+1)))) else (some (.inr ()))
def ut (a_1:List Clause)(b_2:List Clause): Int→Option (Bool⊕Unit):=aJ (nY a_1 b_2)
theorem An (a_1:List Clause)(b_2:List Clause): ∀a,Fin1 fun f=>nY a_1 b_2 f a:=by
 unfold nY
 repeat first|intro _|exact aR|exact bq|apply br|apply bb|apply bc|apply bh|apply bu
theorem Rb (a_1:List Clause)(b_2:List Clause)(x:Int):ut a_1 b_2 x=nY a_1 b_2 (ut a_1 b_2) x:=bA (An a_1 b_2) x
def B8 (a_1:List Clause)(b_2:List Clause):Option Bool:=
 bif ((len a_1) != (len b_2)) then (some false) else (bd (ρ:=Bool) (ut a_1 b_2 0) fun u7:Unit=>some true)
def Cd (a_1:Contract)(b_2:Contract):Option Bool:=
 (xE a_1.Parties b_2.Parties).bind fun r3=>bif (!r3) then (some false) else ((B8 a_1.Clauses b_2.Clauses).bind fun r4=>bif (!r4) then (some false) else (some true))
def xD (a_1:Duty)(b_2:Duty):Option Bool:=
 bif (a_1.Clause != b_2.Clause) then (some false) else (bif (a_1.Since != b_2.Since) then (some false) else (bif (a_1.Due != b_2.Due) then (some false) else (bif (a_1.Status != b_2.Status) then (some false) else (some true))))
def nZ (a_1:List Duty)(b_2:List Duty)(self:Int→Option (Bool⊕Unit))(x3:Int):Option (Bool⊕Unit):=
 bif (decide (x3<(len a_1))) then ((aE a_1 x3).bind fun e4=>(aE b_2 x3).bind fun e5=>(xD e4 e5).bind fun r6=>bif (!r6) then (some (.inl false)) else (self (ac (x3+1)))) else (some (.inr ()))
def uw (a_1:List Duty)(b_2:List Duty): Int→Option (Bool⊕Unit):=aJ (nZ a_1 b_2)
theorem Ap (a_1:List Duty)(b_2:List Duty): ∀a,Fin1 fun f=>nZ a_1 b_2 f a:=by
 unfold nZ
 repeat first|intro _|exact aR|exact bq|apply br|apply bb|apply bc|apply bh|apply bu
theorem Re (a_1:List Duty)(b_2:List Duty)(x:Int):uw a_1 b_2 x=nZ a_1 b_2 (uw a_1 b_2) x:=bA (Ap a_1 b_2) x
def Cg (a_1:List Duty)(b_2:List Duty):Option Bool:=
 bif ((len a_1) != (len b_2)) then (some false) else (bd (ρ:=Bool) (uw a_1 b_2 0) fun u7:Unit=>some true)
def Cj (a_1:State)(b_2:State):Option Bool:=
 bif (a_1.Day != b_2.Day) then (some false) else ((xE a_1.Facts b_2.Facts).bind fun r3=>bif (!r3) then (some false) else ((Cg a_1.Duties b_2.Duties).bind fun r4=>bif (!r4) then (some false) else ((tS a_1.Balances b_2.Balances).bind fun r5=>bif (!r5) then (some false) else (bif (!(a_1.Over==b_2.Over)) then (some false) else (some true)))))
def lT (k_1:Int)(self:(Int×ae)→Option (ae⊕ae))(x2:Int×ae):Option (ae⊕ae):=
 bif (decide (x2.1>0)) then ((DW ([(IntKind.u8.wrap (ac (48+(x2.1.tmod 10))))].map fun n=>UInt8.ofNat n.toNat) x2.2).bind fun s3=>self ((ac (x2.1.tdiv 10)),s3)) else (some (.inr x2.2))
def uH (k_1:Int): (Int×ae)→Option (ae⊕ae):=aJ (lT k_1)
theorem AC (k_1:Int): ∀a,Fin1 fun f=>lT k_1 f a:=by
 unfold lT
 repeat first|intro _|exact aR|exact bq|apply br|apply bb|apply bc|apply bh|apply bu
theorem Fd (k_1:Int)(x:Int×ae):uH k_1 x=lT k_1 (uH k_1) x:=bA (AC k_1) x
def pa (k_1:Int):Option ae:=
 bif (decide (k_1≤0)) then (some ([109,48]:ae)) else (bd (ρ:=ae) (uH k_1 (k_1,([]:ae))) fun u4:ae=>(DW ([109]:ae) u4).bind fun s5=>some s5)
def lS (a_7:List ae)(k_8:Int)(self:(Int×Int×(List ae))→Option ((Int×(List ae))⊕(Int×(List ae))))(x3:Int×Int×(List ae)):Option ((Int×(List ae))⊕(Int×(List ae))):=
 bif (decide (x3.2.1<(len x3.2.2))) then ((pa x3.1).bind fun r4=>(aE x3.2.2 x3.2.1).bind fun e5=>self ((ac (x3.1+1)),(ac (x3.2.1+1)),(bI x3.2.2 x3.2.1 r4))) else (some (.inr (x3.1,x3.2.2)))
def uF (a_7:List ae)(k_8:Int): (Int×Int×(List ae))→Option ((Int×(List ae))⊕(Int×(List ae))):=aJ (lS a_7 k_8)
theorem AB (a_7:List ae)(k_8:Int): ∀a,Fin1 fun f=>lS a_7 k_8 f a:=by
 unfold lS
 repeat first|intro _|exact aR|exact bq|apply br|apply bb|apply bc|apply bh|apply bu
theorem Fa (a_7:List ae)(k_8:Int)(x:Int×Int×(List ae)):uF a_7 k_8 x=lS a_7 k_8 (uF a_7 k_8) x:=bA (AB a_7 k_8) x
def xK (a_7:List ae)(k_8:Int):Option (Int×(List ae)):=
 bd (ρ:=Int×(List ae)) (uF a_7 k_8 (k_8,0,a_7)) fun u6:Int×(List ae)=>bif Nat.beq u6.2.length a_7.length then (some (u6.1,u6.2)) else none
def ku (cF:((List Condition)×Int)→Option (Int×(List Condition)))(a_6:List Condition)(k_7:Int)(self:(Int×Int×(List Condition))→Option ((Int×(List Condition))⊕(Int×(List Condition))))(x3:Int×Int×(List Condition)):Option ((Int×(List Condition))⊕(Int×(List Condition))):=
 bif (decide (x3.2.1<(len x3.2.2))) then ((aE x3.2.2 x3.2.1).bind fun e4=>(pa (ac (x3.1+1))).bind fun r5=>(aE (bI x3.2.2 x3.2.1 (Condition.mk x3.1 e4.Name e4.Day e4.Parts)) x3.2.1).bind fun e6=>bU (bI (bI x3.2.2 x3.2.1 (Condition.mk x3.1 e4.Name e4.Day e4.Parts)) x3.2.1 (Condition.mk e6.Op r5 e6.Day e6.Parts)) fun rw7:List Condition=>(aE rw7 x3.2.1).bind fun e9=>bU (bI rw7 x3.2.1 (Condition.mk e9.Op e9.Name (ac ((ac (x3.1+1))+1)) e9.Parts)) fun rw10:List Condition=>(aE rw10 x3.2.1).bind fun e13=>(cF (e13.Parts,(ac ((ac ((ac (x3.1+1))+1))+1)))).bind fun r14=>bif Nat.beq r14.2.length e13.Parts.length then (bU (bI rw10 x3.2.1 (Condition.mk e13.Op e13.Name e13.Day r14.2)) fun rw16:List Condition=>self (r14.1,(ac (x3.2.1+1)),rw16)) else none) else (some (.inr (x3.1,x3.2.2)))
def mH (cF:((List Condition)×Int)→Option (Int×(List Condition)))(a_6:List Condition)(k_7:Int): (Int×Int×(List Condition))→Option ((Int×(List Condition))⊕(Int×(List Condition))):=aJ (ku cF a_6 k_7)
theorem Aw (cF:((List Condition)×Int)→Option (Int×(List Condition)))(a_6:List Condition)(k_7:Int): ∀a,Fin1 fun f=>ku cF a_6 k_7 f a:=by
 unfold ku
 repeat first|intro _|exact aR|exact bq|apply br|apply bb|apply bc|apply bh|apply bu
theorem EX (cF:((List Condition)×Int)→Option (Int×(List Condition)))(a_6:List Condition)(k_7:Int)(x:Int×Int×(List Condition)):mH cF a_6 k_7 x=ku cF a_6 k_7 (mH cF a_6 k_7) x:=bA (Aw cF a_6 k_7) x
def uC (cF:((List Condition)×Int)→Option (Int×(List Condition)))(a_6:List Condition)(k_7:Int):Option (Int×(List Condition)):=
 bd (ρ:=Int×(List Condition)) (mH cF a_6 k_7 (k_7,0,a_6)) fun u20:Int×(List Condition)=>bif Nat.beq u20.2.length a_6.length then (some (u20.1,u20.2)) else none
def lP (cF:((List Condition)×Int)→Option (Int×(List Condition)))(x:(List Condition)×Int):Option (Int×(List Condition)):=uC cF x.1 x.2
def Rh (a_6:List Condition)(k_7:Int):Option (Int×(List Condition)):=aJ lP (a_6,k_7)
theorem Ya:∀x,Fin1 fun cF=>lP cF x:=by
 unfold lP uC
 repeat first|intro _|exact aR|exact bq|exact jm|exact lw|exact iM|exact jI|exact i8|exact i9|apply br|apply bb|apply bc|apply bh|apply bu|apply qy|unfold mH|unfold ku
theorem abw (a_6:List Condition)(k_7:Int):Rh a_6 k_7=uC (aJ lP) a_6 k_7:=bA Ya (a_6,k_7)
def lO (a_7:List Clause)(k_8:Int)(self:(Int×Int×(List Clause))→Option ((Int×(List Clause))⊕(Int×(List Clause))))(x3:Int×Int×(List Clause)):Option ((Int×(List Clause))⊕(Int×(List Clause))):=
 bif (decide (x3.2.1<(len x3.2.2))) then ((pa x3.1).bind fun r4=>(aE x3.2.2 x3.2.1).bind fun e5=>(aE (bI x3.2.2 x3.2.1 (Clause.mk r4 e5.Kind e5.Party e5.Action e5.Other e5.Amount e5.When e5.Within e5.Repair)) x3.2.1).bind fun e6=>bU (bI (bI x3.2.2 x3.2.1 (Clause.mk r4 e5.Kind e5.Party e5.Action e5.Other e5.Amount e5.When e5.Within e5.Repair)) x3.2.1 (Clause.mk e6.Id (ac (x3.1+1)) e6.Party e6.Action e6.Other e6.Amount e6.When e6.Within e6.Repair)) fun rw7:List Clause=>(aE rw7 x3.2.1).bind fun e9=>bU (bI rw7 x3.2.1 (Clause.mk e9.Id e9.Kind (ac ((ac (x3.1+1))+1)) e9.Action e9.Other e9.Amount e9.When e9.Within e9.Repair)) fun rw10:List Clause=>(pa (ac ((ac ((ac (x3.1+1))+1))+1))).bind fun r13=>(aE rw10 x3.2.1).bind fun e14=>bU (bI rw10 x3.2.1 (Clause.mk e14.Id e14.Kind e14.Party r13 e14.Other e14.Amount e14.When e14.Within e14.Repair)) fun rw15:List Clause=>(aE rw15 x3.2.1).bind fun e19=>bU (bI rw15 x3.2.1 (Clause.mk e19.Id e19.Kind e19.Party e19.Action (ac ((ac ((ac ((ac (x3.1+1))+1))+1))+1)) e19.Amount e19.When e19.Within e19.Repair)) fun rw20:List Clause=>(aE rw20 x3.2.1).bind fun e25=>bU (bI rw20 x3.2.1 (Clause.mk e25.Id e25.Kind e25.Party e25.Action e25.Other (ac ((ac ((ac ((ac ((ac (x3.1+1))+1))+1))+1))+1)) e25.When e25.Within e25.Repair)) fun rw26:List Clause=>(aE rw26 x3.2.1).bind fun e32=>bU (bI rw26 x3.2.1 (Clause.mk e32.Id e32.Kind e32.Party e32.Action e32.Other e32.Amount (Condition.mk (ac ((ac ((ac ((ac ((ac ((ac (x3.1+1))+1))+1))+1))+1))+1)) e32.When.Name e32.When.Day e32.When.Parts) e32.Within e32.Repair)) fun rw33:List Clause=>(pa (ac ((ac ((ac ((ac ((ac ((ac ((ac (x3.1+1))+1))+1))+1))+1))+1))+1))).bind fun r40=>(aE rw33 x3.2.1).bind fun e41=>bU (bI rw33 x3.2.1 (Clause.mk e41.Id e41.Kind e41.Party e41.Action e41.Other e41.Amount (Condition.mk e41.When.Op r40 e41.When.Day e41.When.Parts) e41.Within e41.Repair)) fun rw42:List Clause=>(aE rw42 x3.2.1).bind fun e50=>bU (bI rw42 x3.2.1 (Clause.mk e50.Id e50.Kind e50.Party e50.Action e50.Other e50.Amount (Condition.mk e50.When.Op e50.When.Name (ac ((ac ((ac ((ac ((ac ((ac ((ac ((ac (x3.1+1))+1))+1))+1))+1))+1))+1))+1)) e50.When.Parts) e50.Within e50.Repair)) fun rw51:List Clause=>(aE rw51 x3.2.1).bind fun e60=>(Rh e60.When.Parts (ac ((ac ((ac ((ac ((ac ((ac ((ac ((ac ((ac (x3.1+1))+1))+1))+1))+1))+1))+1))+1))+1))).bind fun r61=>bif Nat.beq r61.2.length e60.When.Parts.length then (bU (bI rw51 x3.2.1 (Clause.mk e60.Id e60.Kind e60.Party e60.Action e60.Other e60.Amount (Condition.mk e60.When.Op e60.When.Name e60.When.Day r61.2) e60.Within e60.Repair)) fun rw63:List Clause=>(aE rw63 x3.2.1).bind fun e73=>bU (bI rw63 x3.2.1 (Clause.mk e73.Id e73.Kind e73.Party e73.Action e73.Other e73.Amount e73.When r61.1 e73.Repair)) fun rw74:List Clause=>(pa (ac (r61.1+1))).bind fun r85=>(aE rw74 x3.2.1).bind fun e86=>bU (bI rw74 x3.2.1 (Clause.mk e86.Id e86.Kind e86.Party e86.Action e86.Other e86.Amount e86.When e86.Within r85)) fun rw87:List Clause=>self ((ac ((ac (r61.1+1))+1)),(ac (x3.2.1+1)),rw87)) else none) else (some (.inr (x3.1,x3.2.2)))
def oc (a_7:List Clause)(k_8:Int): (Int×Int×(List Clause))→Option ((Int×(List Clause))⊕(Int×(List Clause))):=aJ (lO a_7 k_8)
theorem Av (a_7:List Clause)(k_8:Int): ∀a,Fin1 fun f=>lO a_7 k_8 f a:=by
 unfold lO
 repeat first|intro _|exact aR|exact bq|apply br|apply bb|apply bc|apply bh|apply bu
theorem EW (a_7:List Clause)(k_8:Int)(x:Int×Int×(List Clause)):oc a_7 k_8 x=lO a_7 k_8 (oc a_7 k_8) x:=bA (Av a_7 k_8) x
def Cm (a_7:List Clause)(k_8:Int):Option (Int×(List Clause)):=
 bd (ρ:=Int×(List Clause)) (oc a_7 k_8 (k_8,0,a_7)) fun u99:Int×(List Clause)=>bif Nat.beq u99.2.length a_7.length then (some (u99.1,u99.2)) else none
def Cp (a_7:Contract)(k_8:Int):Option Int:=
 (xK a_7.Parties k_8).bind fun r3=>bif Nat.beq r3.2.length a_7.Parties.length then ((Cm a_7.Clauses r3.1).bind fun r5=>bif Nat.beq r5.2.length a_7.Clauses.length then (some r5.1) else none) else none
def lQ (a_6:List Duty)(k_7:Int)(self:(Int×Int×(List Duty))→Option ((Int×(List Duty))⊕(Int×(List Duty))))(x3:Int×Int×(List Duty)):Option ((Int×(List Duty))⊕(Int×(List Duty))):=
 bif (decide (x3.2.1<(len x3.2.2))) then ((aE x3.2.2 x3.2.1).bind fun e4=>(aE (bI x3.2.2 x3.2.1 (Duty.mk x3.1 e4.Since e4.Due e4.Status)) x3.2.1).bind fun e5=>bU (bI (bI x3.2.2 x3.2.1 (Duty.mk x3.1 e4.Since e4.Due e4.Status)) x3.2.1 (Duty.mk e5.Clause (ac (x3.1+1)) e5.Due e5.Status)) fun rw6:List Duty=>(aE rw6 x3.2.1).bind fun e8=>bU (bI rw6 x3.2.1 (Duty.mk e8.Clause e8.Since (ac ((ac (x3.1+1))+1)) e8.Status)) fun rw9:List Duty=>(aE rw9 x3.2.1).bind fun e12=>bU (bI rw9 x3.2.1 (Duty.mk e12.Clause e12.Since e12.Due (ac ((ac ((ac (x3.1+1))+1))+1)))) fun rw13:List Duty=>self ((ac ((ac ((ac ((ac (x3.1+1))+1))+1))+1)),(ac (x3.2.1+1)),rw13)) else (some (.inr (x3.1,x3.2.2)))
def uD (a_6:List Duty)(k_7:Int): (Int×Int×(List Duty))→Option ((Int×(List Duty))⊕(Int×(List Duty))):=aJ (lQ a_6 k_7)
theorem Ay (a_6:List Duty)(k_7:Int): ∀a,Fin1 fun f=>lQ a_6 k_7 f a:=by
 unfold lQ
 repeat first|intro _|exact aR|exact bq|apply br|apply bb|apply bc|apply bh|apply bu
theorem E2 (a_6:List Duty)(k_7:Int)(x:Int×Int×(List Duty)):uD a_6 k_7 x=lQ a_6 k_7 (uD a_6 k_7) x:=bA (Ay a_6 k_7) x
def Cr (a_6:List Duty)(k_7:Int):Option (Int×(List Duty)):=
 bd (ρ:=Int×(List Duty)) (uD a_6 k_7 (k_7,0,a_6)) fun u17:Int×(List Duty)=>bif Nat.beq u17.2.length a_6.length then (some (u17.1,u17.2)) else none
def lR (a_6:List Int)(k_7:Int)(self:(Int×Int×(List Int))→Option ((Int×(List Int))⊕(Int×(List Int))))(x3:Int×Int×(List Int)):Option ((Int×(List Int))⊕(Int×(List Int))):=
 bif (decide (x3.2.1<(len x3.2.2))) then ((aE x3.2.2 x3.2.1).bind fun e4=>self ((ac (x3.1+1)),(ac (x3.2.1+1)),(bI x3.2.2 x3.2.1 x3.1))) else (some (.inr (x3.1,x3.2.2)))
def uE (a_6:List Int)(k_7:Int): (Int×Int×(List Int))→Option ((Int×(List Int))⊕(Int×(List Int))):=aJ (lR a_6 k_7)
theorem Az (a_6:List Int)(k_7:Int): ∀a,Fin1 fun f=>lR a_6 k_7 f a:=by
 unfold lR
 repeat first|intro _|exact aR|exact bq|apply br|apply bb|apply bc|apply bh|apply bu
theorem E5 (a_6:List Int)(k_7:Int)(x:Int×Int×(List Int)):uE a_6 k_7 x=lR a_6 k_7 (uE a_6 k_7) x:=bA (Az a_6 k_7) x
def xJ (a_6:List Int)(k_7:Int):Option (Int×(List Int)):=
 bd (ρ:=Int×(List Int)) (uE a_6 k_7 (k_7,0,a_6)) fun u5:Int×(List Int)=>bif Nat.beq u5.2.length a_6.length then (some (u5.1,u5.2)) else none
def Cu (a_9:State)(tZ:Int):Option Int:=
 (xK a_9.Facts tZ).bind fun r3=>bif Nat.beq r3.2.length a_9.Facts.length then ((Cr a_9.Duties r3.1).bind fun r5=>bif Nat.beq r5.2.length a_9.Duties.length then ((xJ a_9.Balances r5.1).bind fun r7=>bif Nat.beq r7.2.length a_9.Balances.length then (some r7.1) else none) else none) else none
def lN (a_1:List Int)(k_2:Int)(self:(Int×Int)→Option (Int⊕Int))(x3:Int×Int):Option (Int⊕Int):=
 bif (decide (x3.2<(len a_1))) then ((aE a_1 x3.2).bind fun e4=>bif (e4 != x3.1) then (some (.inl (-1))) else (self ((ac (x3.1+1)),(ac (x3.2+1))))) else (some (.inr x3.1))
def uB (a_1:List Int)(k_2:Int): (Int×Int)→Option (Int⊕Int):=aJ (lN a_1 k_2)
theorem Au (a_1:List Int)(k_2:Int): ∀a,Fin1 fun f=>lN a_1 k_2 f a:=by
 unfold lN
 repeat first|intro _|exact aR|exact bq|apply br|apply bb|apply bc|apply bh|apply bu
theorem ET (a_1:List Int)(k_2:Int)(x:Int×Int):uB a_1 k_2 x=lN a_1 k_2 (uB a_1 k_2) x:=bA (Au a_1 k_2) x
def xF (a_1:List Int)(k_2:Int):Option Int:=
 bd (ρ:=Int) (uB a_1 k_2 (k_2,0)) fun u5:Int=>some u5
def fS (gS:Contract)(gU:State)(fX:Int):Option Bool:=
 (CC gS 1048576).bind fun r4=>bif (decide (r4<0)) then (some true) else ((CI gU r4).bind fun r5=>bif (decide (r5<0)) then (some true) else ((tT gS).bind fun r6=>(tU gU).bind fun r7=>(Dh r6 r7 fX).bind fun r8=>(tT gS).bind fun r9=>(tU gU).bind fun r10=>(Kp r9 r10 fX).bind fun r11=>(tS r11.1 r8.1).bind fun r12=>bU (bif (!r12) then true else (!(r11.2==r8.2))) fun u13:Bool=>bif u13 then (some false) else ((tT gS).bind fun r14=>(Cd r9 r14).bind fun r15=>bif (!r15) then (some false) else ((tU gU).bind fun r16=>(Cj r10 r16).bind fun r17=>bif (!r17) then (some false) else ((Cp r9 1).bind fun r18=>(Cu r10 r18).bind fun r19=>bd (ρ:=Bool) (bif (decide (r19<0)) then (some (.inr true)) else ((tS r11.1 r8.1).bind fun r30=>bU (bif (!r30) then true else (!(r11.2==r8.2))) fun u31:Bool=>some (.inr u31))) fun u20:Bool=>bif u20 then (some false) else ((xJ r11.1 1).bind fun r21=>bif Nat.beq r21.2.length r11.1.length then ((xF r21.2 1).bind fun r23=>bif (decide (r23<0)) then (some false) else (bif (r23 != r21.1) then (some false) else ((tT gS).bind fun r24=>(tU gU).bind fun r25=>(Kp r24 r25 fX).bind fun r26=>(tS r26.1 r8.1).bind fun r27=>bU (bif (!r27) then true else (!(r26.2==r8.2))) fun u28:Bool=>bif u28 then (some false) else ((xF r21.2 1).bind fun r29=>bif (decide (r29<0)) then (some false) else (bif (r29 != r21.1) then (some false) else (some true)))))) else none))))))
end
end Go.Ln
