/-
  What each function computes.
-/
import Derived.Test.YtcfddlacocdpoaaGreatDoorFnExactDuesOfLnC
set_option maxHeartbeats 4000000
set_option linter.unusedVariables false
set_option linter.unusedSimpArgs false
set_option maxRecDepth 100000
namespace Go.Ln
open Go
noncomputable section
structure Condition where
 Op:Int
 Name:ae
 Day:Int
 Parts:List Condition
mutual
def aI:Condition→V
 | ⟨a0,a1,a2,a3⟩=>.agg [I a0,str a1,I a2,.isl false (dW a3)]
def dW:List Condition→List V
 | []=>[]
 | x::xs=>aI x::dW xs
end
theorem pO:∀xs,dW xs=xs.map aI
 | []=>by simp[dW]
 | x::xs=>by simp[dW,pO xs]
def bK (x:Condition):V:=.agg [I x.Op,str x.Name,I x.Day,.isl false (x.Parts.map aI)]
abbrev ar (x:Condition):V:=.agg [I x.Op,str x.Name,I x.Day,.isl false (x.Parts.map aI)]
theorem dK (x:Condition):aI x=bK x:=by cases x;simp only[aI,bK,pO]
mutual
theorem fW:∀(a b:Condition),aI a=aI b→a=b
 | ⟨a0,a1,a2,a3⟩,⟨b0,b1,b2,b3⟩,h=>by
  simp only[aI] at h
  have k0:=V.agg.inj h
  obtain⟨h0,k1⟩:=List.cons.inj k0
  obtain rfl:=bc a0 b0 h0
  obtain⟨h1,k2⟩:=List.cons.inj k1
  obtain rfl:=bQ a1 b1 h1
  obtain⟨h2,k3⟩:=List.cons.inj k2
  obtain rfl:=bc a2 b2 h2
  obtain⟨h3,k4⟩:=List.cons.inj k3
  have e3:dW a3=dW b3:=by simpa using h3
  obtain rfl:=pN a3 b3 e3
  rfl
theorem pN:∀(a b:List Condition),dW a=dW b→a=b
 | [],[],_=>rfl
 | [],_::_,h=>by simp[dW] at h
 | _::_,[],h=>by simp[dW] at h
 | x::xs,y::ys,h=>by
  simp only[dW,List.cons.injEq] at h
  rw[fW x y h.1,pN xs ys h.2]
end
theorem dP (a b:Condition)(h:bK a=bK b):a=b:=fW a b (by rw[dK,dK,h])
mutual
def aj:Condition→V
 | ⟨a0,a1,a2,a3⟩=>.agg [I a0,str a1,I a2,.usl 4 (dt a3)]
def dt:List Condition→List V
 | []=>[]
 | x::xs=>aj x::dt xs
end
theorem pR:∀xs,dt xs=xs.map aj
 | []=>by simp[dt]
 | x::xs=>by simp[dt,pR xs]
def tv (x:Condition):V:=.agg [I x.Op,str x.Name,I x.Day,.usl 4 (x.Parts.map aj)]
abbrev rh (x:Condition):V:=.agg [I x.Op,str x.Name,I x.Day,.usl 4 (x.Parts.map aj)]
theorem dM (x:Condition):aj x=tv x:=by cases x;simp only[aj,tv,pR]
mutual
theorem mo:∀(a b:Condition),aj a=aj b→a=b
 | ⟨a0,a1,a2,a3⟩,⟨b0,b1,b2,b3⟩,h=>by
  simp only[aj] at h
  have k0:=V.agg.inj h
  obtain⟨h0,k1⟩:=List.cons.inj k0
  obtain rfl:=bc a0 b0 h0
  obtain⟨h1,k2⟩:=List.cons.inj k1
  obtain rfl:=bQ a1 b1 h1
  obtain⟨h2,k3⟩:=List.cons.inj k2
  obtain rfl:=bc a2 b2 h2
  obtain⟨h3,k4⟩:=List.cons.inj k3
  have e3:dt a3=dt b3:=by simpa using h3
  obtain rfl:=pQ a3 b3 e3
  rfl
theorem pQ:∀(a b:List Condition),dt a=dt b→a=b
 | [],[],_=>rfl
 | [],_::_,h=>by simp[dt] at h
 | _::_,[],h=>by simp[dt] at h
 | x::xs,y::ys,h=>by
  simp only[dt,List.cons.injEq] at h
  rw[mo x y h.1,pQ xs ys h.2]
end
mutual
theorem qQ:∀x:Condition,eR (aj x)=aI x
 | ⟨a0,a1,a2,a3⟩=>by simp[aj,aI,eR,gb,str,pP]
theorem pP:∀xs:List Condition,gb (dt xs)=dW xs
 | []=>by simp[dt,dW,gb]
 | x::xs=>by simp[dt,dW,gb,qQ x,pP xs]
end
mutual
theorem xu:∀x:Condition,cT (aj x)=false
 | ⟨a0,a1,a2,a3⟩=>by simp[aj,cT,dE,str,pt]
theorem pt:∀xs:List Condition,dE (dt xs)=false
 | []=>by simp[dt,dE]
 | x::xs=>by simp[dt,dE,xu x,pt xs]
end
structure Clause where
 Id:ae
 Kind:Int
 Party:Int
 Action:ae
 Other:Int
 Amount:Int
 When:Condition
 Within:Int
 Repair:ae
def au (x:Clause):V:=.agg [str x.Id,I x.Kind,I x.Party,str x.Action,I x.Other,I x.Amount,I x.When.Op,str x.When.Name,I x.When.Day,.isl false (x.When.Parts.map aI),I x.Within,str x.Repair]
abbrev aB (x:Clause):V:=.agg [str x.Id,I x.Kind,I x.Party,str x.Action,I x.Other,I x.Amount,I x.When.Op,str x.When.Name,I x.When.Day,.isl false (x.When.Parts.map aI),I x.Within,str x.Repair]
theorem dV (a b:Clause)(h:au a=au b):a=b:=by
 obtain⟨p0,p1,p2,p3,p4,p5,⟨p6,p7,p8,p9⟩,p10,p11⟩:=a
 obtain⟨q0,q1,q2,q3,q4,q5,⟨q6,q7,q8,q9⟩,q10,q11⟩:=b
 replace h:=V.agg.inj h
 obtain⟨h0,h⟩:=List.cons.inj h
 obtain rfl:=bQ p0 q0 h0
 obtain⟨h1,h⟩:=List.cons.inj h
 obtain rfl:=bc p1 q1 h1
 obtain⟨h2,h⟩:=List.cons.inj h
 obtain rfl:=bc p2 q2 h2
 obtain⟨h3,h⟩:=List.cons.inj h
 obtain rfl:=bQ p3 q3 h3
 obtain⟨h4,h⟩:=List.cons.inj h
 obtain rfl:=bc p4 q4 h4
 obtain⟨h5,h⟩:=List.cons.inj h
 obtain rfl:=bc p5 q5 h5
 obtain⟨h6,h⟩:=List.cons.inj h
 obtain rfl:=bc p6 q6 h6
 obtain⟨h7,h⟩:=List.cons.inj h
 obtain rfl:=bQ p7 q7 h7
 obtain⟨h8,h⟩:=List.cons.inj h
 obtain rfl:=bc p8 q8 h8
 obtain⟨h9,h⟩:=List.cons.inj h
 obtain rfl:=(cn fW) p9 q9 h9
 obtain⟨h10,h⟩:=List.cons.inj h
 obtain rfl:=bc p10 q10 h10
 obtain⟨h11,h⟩:=List.cons.inj h
 obtain rfl:=bQ p11 q11 h11
 rfl
def ak (x:Clause):V:=.agg [str x.Id,I x.Kind,I x.Party,str x.Action,I x.Other,I x.Amount,I x.When.Op,str x.When.Name,I x.When.Day,.usl 4 (x.When.Parts.map aj),I x.Within,str x.Repair]
abbrev vP (x:Clause):V:=.agg [str x.Id,I x.Kind,I x.Party,str x.Action,I x.Other,I x.Amount,I x.When.Op,str x.When.Name,I x.When.Day,.usl 4 (x.When.Parts.map aj),I x.Within,str x.Repair]
theorem fP (x:Clause):eR (ak x)=au x:=ahr (lf rfl (lf rfl (lf rfl (lf rfl (lf rfl (lf rfl (lf rfl (lf rfl (lf rfl (lf (ab9 (bP qQ)) (lf rfl (lf rfl rfl))))))))))))
theorem tu (a b:Clause)(h:ak a=ak b):a=b:=by
 obtain⟨p0,p1,p2,p3,p4,p5,⟨p6,p7,p8,p9⟩,p10,p11⟩:=a
 obtain⟨q0,q1,q2,q3,q4,q5,⟨q6,q7,q8,q9⟩,q10,q11⟩:=b
 replace h:=V.agg.inj h
 obtain⟨h0,h⟩:=List.cons.inj h
 obtain rfl:=bQ p0 q0 h0
 obtain⟨h1,h⟩:=List.cons.inj h
 obtain rfl:=bc p1 q1 h1
 obtain⟨h2,h⟩:=List.cons.inj h
 obtain rfl:=bc p2 q2 h2
 obtain⟨h3,h⟩:=List.cons.inj h
 obtain rfl:=bQ p3 q3 h3
 obtain⟨h4,h⟩:=List.cons.inj h
 obtain rfl:=bc p4 q4 h4
 obtain⟨h5,h⟩:=List.cons.inj h
 obtain rfl:=bc p5 q5 h5
 obtain⟨h6,h⟩:=List.cons.inj h
 obtain rfl:=bc p6 q6 h6
 obtain⟨h7,h⟩:=List.cons.inj h
 obtain rfl:=bQ p7 q7 h7
 obtain⟨h8,h⟩:=List.cons.inj h
 obtain rfl:=bc p8 q8 h8
 obtain⟨h9,h⟩:=List.cons.inj h
 obtain rfl:=(fu mo) p9 q9 h9
 obtain⟨h10,h⟩:=List.cons.inj h
 obtain rfl:=bc p10 q10 h10
 obtain⟨h11,h⟩:=List.cons.inj h
 obtain rfl:=bQ p11 q11 h11
 rfl
structure Contract where
 Parties:List ae
 Clauses:List Clause
def aP (x:Contract):V:=.agg [.isl false (x.Parties.map str),.isl false (x.Clauses.map au)]
abbrev aa (x:Contract):V:=.agg [.isl false (x.Parties.map str),.isl false (x.Clauses.map au)]
theorem bb (a b:Contract)(h:aP a=aP b):a=b:=by
 obtain⟨p0,p1⟩:=a
 obtain⟨q0,q1⟩:=b
 replace h:=V.agg.inj h
 obtain⟨h0,h⟩:=List.cons.inj h
 obtain rfl:=(cn bQ) p0 q0 h0
 obtain⟨h1,h⟩:=List.cons.inj h
 obtain rfl:=(cn dV) p1 q1 h1
 rfl
def rj (x:Contract):V:=.agg [.usl 1 (x.Parties.map str),.usl 12 (x.Clauses.map ak)]
abbrev kY (x:Contract):V:=.agg [.usl 1 (x.Parties.map str),.usl 12 (x.Clauses.map ak)]
theorem Ak (a b:Contract)(h:rj a=rj b):a=b:=by
 obtain⟨p0,p1⟩:=a
 obtain⟨q0,q1⟩:=b
 replace h:=V.agg.inj h
 obtain⟨h0,h⟩:=List.cons.inj h
 obtain rfl:=(fu bQ) p0 q0 h0
 obtain⟨h1,h⟩:=List.cons.inj h
 obtain rfl:=(fu tu) p1 q1 h1
 rfl
structure Duty where
 Clause:Int
 Since:Int
 Due:Int
 Status:Int
def ah (x:Duty):V:=.agg [I x.Clause,I x.Since,I x.Due,I x.Status]
abbrev agB (x:Duty):V:=.agg [I x.Clause,I x.Since,I x.Due,I x.Status]
theorem Ke (x:Duty):(cells (ah x)).length=4∧(cells (ah x)).all fF=true:=⟨rfl,rfl⟩
theorem gO (x:Duty):eR (ah x)=ah x:=rfl
theorem eh (a b:Duty)(h:ah a=ah b):a=b:=by
 obtain⟨p0,p1,p2,p3⟩:=a
 obtain⟨q0,q1,q2,q3⟩:=b
 replace h:=V.agg.inj h
 obtain⟨h0,h⟩:=List.cons.inj h
 obtain rfl:=bc p0 q0 h0
 obtain⟨h1,h⟩:=List.cons.inj h
 obtain rfl:=bc p1 q1 h1
 obtain⟨h2,h⟩:=List.cons.inj h
 obtain rfl:=bc p2 q2 h2
 obtain⟨h3,h⟩:=List.cons.inj h
 obtain rfl:=bc p3 q3 h3
 rfl
structure State where
 Day:Int
 Facts:List ae
 Duties:List Duty
 Balances:List Int
 Over:Bool
def bH (x:State):V:=.agg [I x.Day,.isl false (x.Facts.map str),.isl false (x.Duties.map ah),.isl false (x.Balances.map I),B x.Over]
abbrev ai (x:State):V:=.agg [I x.Day,.isl false (x.Facts.map str),.isl false (x.Duties.map ah),.isl false (x.Balances.map I),B x.Over]
theorem cd (a b:State)(h:bH a=bH b):a=b:=by
 obtain⟨p0,p1,p2,p3,p4⟩:=a
 obtain⟨q0,q1,q2,q3,q4⟩:=b
 replace h:=V.agg.inj h
 obtain⟨h0,h⟩:=List.cons.inj h
 obtain rfl:=bc p0 q0 h0
 obtain⟨h1,h⟩:=List.cons.inj h
 obtain rfl:=(cn bQ) p1 q1 h1
 obtain⟨h2,h⟩:=List.cons.inj h
 obtain rfl:=(cn eh) p2 q2 h2
 obtain⟨h3,h⟩:=List.cons.inj h
 obtain rfl:=(cn bc) p3 q3 h3
 obtain⟨h4,h⟩:=List.cons.inj h
 obtain rfl:=abC p4 q4 h4
 rfl
def wC (x:State):V:=.agg [I x.Day,.usl 1 (x.Facts.map str),.usl 4 (x.Duties.map ah),.usl 1 (x.Balances.map I),B x.Over]
abbrev nJ (x:State):V:=.agg [I x.Day,.usl 1 (x.Facts.map str),.usl 4 (x.Duties.map ah),.usl 1 (x.Balances.map I),B x.Over]
theorem Kd (a b:State)(h:wC a=wC b):a=b:=by
 obtain⟨p0,p1,p2,p3,p4⟩:=a
 obtain⟨q0,q1,q2,q3,q4⟩:=b
 replace h:=V.agg.inj h
 obtain⟨h0,h⟩:=List.cons.inj h
 obtain rfl:=bc p0 q0 h0
 obtain⟨h1,h⟩:=List.cons.inj h
 obtain rfl:=(fu bQ) p1 q1 h1
 obtain⟨h2,h⟩:=List.cons.inj h
 obtain rfl:=(fu eh) p2 q2 h2
 obtain⟨h3,h⟩:=List.cons.inj h
 obtain rfl:=(fu bc) p3 q3 h3
 obtain⟨h4,h⟩:=List.cons.inj h
 obtain rfl:=abC p4 q4 h4
 rfl
mutual
def pU:Condition→Prop
 | ⟨a0,a1,a2,a3⟩=>pm a0∧I3 a1∧pm a2∧(a3.length≤maxLen∧Nd a3)
def Nd:List Condition→Prop
 | []=>True
 | x::xs=>pU x∧Nd xs
end
theorem Nf:∀xs,Nd xs↔∀x∈xs,pU x
 | []=>by simp[Nd]
 | x::xs=>by simp[Nd,Nf xs]
theorem Nc (x:Condition):pU x↔pm x.Op∧I3 x.Name∧pm x.Day∧tC pU x.Parts:=by cases x;simp only[pU,Nf,tC]
def tD (x:Clause):Prop:=I3 x.Id∧pm x.Kind∧pm x.Party∧I3 x.Action∧pm x.Other∧pm x.Amount∧pU x.When∧pm x.Within∧I3 x.Repair
def Zl (x:Contract):Prop:=(tC I3) x.Parties∧(tC tD) x.Clauses
def Km (x:Duty):Prop:=pm x.Clause∧pm x.Since∧pm x.Due∧pm x.Status
def Ej (x:State):Prop:=pm x.Day∧(tC I3) x.Facts∧(tC Km) x.Duties∧(tC pm) x.Balances∧okB x.Over
def oe (a_1:List ae)(aw:Int)(self:(Int×Int)→Option (Int⊕Int))(x3:Int×Int):Option (Int⊕Int):=
 bif (decide (x3.2<(len a_1))) then ((aG a_1 x3.2).bind fun e4=>bif (decide ((ac (x3.1 - (len e4)))<0)) then (some (.inl (-1))) else (self ((ac (x3.1 - (len e4))),(ac (x3.2+1))))) else (some (.inr x3.1))
def uF (a_1:List ae)(aw:Int): (Int×Int)→Option (Int⊕Int):=aL (oe a_1 aw)
theorem AF (a_1:List ae)(aw:Int): ∀a,Fin1 fun f=>oe a_1 aw f a:=by
 unfold oe
 repeat first|intro _|exact aU|exact bu|apply bx|apply bd|apply be|apply bm|apply bz
theorem RM (a_1:List ae)(aw:Int)(x:Int×Int):uF a_1 aw x=oe a_1 aw (uF a_1 aw) x:=bB (AF a_1 aw) x
def xP (a_1:List ae)(aw:Int):Option Int:=
 bif (decide ((ac (aw - (len a_1)))<0)) then (some (-1)) else (bf (ρ:=Int) (uF a_1 aw ((ac (aw - (len a_1))),0)) fun u5:Int=>some u5)
def lW (bE:(Condition×Int)→Option Int)(a_1:List Condition)(aw:Int)(self:(Int×Int)→Option (Int⊕Int))(x3:Int×Int):Option (Int⊕Int):=
 bif (decide (x3.2<(len a_1))) then ((aG a_1 x3.2).bind fun e4=>(bE (e4,x3.1)).bind fun r5=>bif (decide (r5<0)) then (some (.inl (-1))) else (self (r5,(ac (x3.2+1))))) else (some (.inr x3.1))
def rM (bE:(Condition×Int)→Option Int)(a_1:List Condition)(aw:Int): (Int×Int)→Option (Int⊕Int):=aL (lW bE a_1 aw)
theorem AE (bE:(Condition×Int)→Option Int)(a_1:List Condition)(aw:Int): ∀a,Fin1 fun f=>lW bE a_1 aw f a:=by
 unfold lW
 repeat first|intro _|exact aU|exact bu|apply bx|apply bd|apply be|apply bm|apply bz
theorem RL (bE:(Condition×Int)→Option Int)(a_1:List Condition)(aw:Int)(x:Int×Int):rM bE a_1 aw x=lW bE a_1 aw (rM bE a_1 aw) x:=bB (AE bE a_1 aw) x
def xO (bE:(Condition×Int)→Option Int)(a_1:List Condition)(aw:Int):Option Int:=
 bif (decide ((ac (aw - (len a_1)))<0)) then (some (-1)) else (bf (ρ:=Int) (rM bE a_1 aw ((ac (aw - (len a_1))),0)) fun u6:Int=>some u6)
def uE (bE:(Condition×Int)→Option Int)(a_1:Condition)(aw:Int):Option Int:=
 bif (decide ((ac (aw - (len a_1.Name)))<0)) then (some (-1)) else ((xO bE a_1.Parts (ac (aw - (len a_1.Name)))).bind fun r3=>bif (decide (r3<0)) then (some (-1)) else (some r3))
def qH (bE:(Condition×Int)→Option Int)(x:Condition×Int):Option Int:=uE bE x.1 x.2
def xL (a_1:Condition)(aw:Int):Option Int:=aL qH (a_1,aw)
theorem Y2:∀x,Fin1 fun bE=>qH bE x:=by
 unfold qH uE
 repeat first|intro _|exact aU|exact bu|exact js|exact ly|exact iM|exact jJ|exact ja|exact jb|apply bx|apply bd|apply be|apply bm|apply bz|apply qx|unfold xO|unfold rM|unfold lW
theorem acm (a_1:Condition)(aw:Int):xL a_1 aw=uE (aL qH) a_1 aw:=bB Y2 (a_1,aw)
def vW (a_1:Clause)(aw:Int):Option Int:=
 bif (decide ((ac (aw - (len a_1.Id)))<0)) then (some (-1)) else (bif (decide ((ac ((ac (aw - (len a_1.Id))) - (len a_1.Action)))<0)) then (some (-1)) else ((xL a_1.When (ac ((ac (aw - (len a_1.Id))) - (len a_1.Action)))).bind fun r3=>bif (decide (r3<0)) then (some (-1)) else (bif (decide ((ac (r3 - (len a_1.Repair)))<0)) then (some (-1)) else (some (ac (r3 - (len a_1.Repair)))))))
def od (a_1:List Clause)(aw:Int)(self:(Int×Int)→Option (Int⊕Int))(x3:Int×Int):Option (Int⊕Int):=
 bif (decide (x3.2<(len a_1))) then ((aG a_1 x3.2).bind fun e4=>(vW e4 x3.1).bind fun r5=>bif (decide (r5<0)) then (some (.inl (-1))) else (self (r5,(ac (x3.2+1))))) else (some (.inr x3.1))
def uD (a_1:List Clause)(aw:Int): (Int×Int)→Option (Int⊕Int):=aL (od a_1 aw)
theorem AD (a_1:List Clause)(aw:Int): ∀a,Fin1 fun f=>od a_1 aw f a:=by
 unfold od
 repeat first|intro _|exact aU|exact bu|apply bx|apply bd|apply be|apply bm|apply bz
theorem RK (a_1:List Clause)(aw:Int)(x:Int×Int):uD a_1 aw x=od a_1 aw (uD a_1 aw) x:=bB (AD a_1 aw) x
def CD (a_1:List Clause)(aw:Int):Option Int:=
 bif (decide ((ac (aw - (len a_1)))<0)) then (some (-1)) else (bf (ρ:=Int) (uD a_1 aw ((ac (aw - (len a_1))),0)) fun u6:Int=>some u6)
def CH (a_1:Contract)(aw:Int):Option Int:=
 (xP a_1.Parties aw).bind fun r3=>bif (decide (r3<0)) then (some (-1)) else ((CD a_1.Clauses r3).bind fun r4=>bif (decide (r4<0)) then (some (-1)) else (some r4))
def CJ (a_1:List Duty)(aw:Int):Option Int:=
 bif (decide ((ac (aw - (len a_1)))<0)) then (some (-1)) else (some (ac (aw - (len a_1))))
def CL (a_1:List Int)(aw:Int):Option Int:=
 bif (decide ((ac (aw - (len a_1)))<0)) then (some (-1)) else (some (ac (aw - (len a_1))))
def CN (a_1:State)(aw:Int):Option Int:=
 (xP a_1.Facts aw).bind fun r3=>bif (decide (r3<0)) then (some (-1)) else ((CJ a_1.Duties r3).bind fun r4=>bif (decide (r4<0)) then (some (-1)) else ((CL a_1.Balances r4).bind fun r5=>bif (decide (r5<0)) then (some (-1)) else (some r5)))
def oo (a_1:List ae)(self:(Int×(List ae))→Option ((List ae)⊕(List ae)))(x3:Int×(List ae)):Option ((List ae)⊕(List ae)):=
 bif (decide (x3.1<(len a_1))) then ((aG a_1 x3.1).bind fun e4=>(aG x3.2 x3.1).bind fun e5=>self ((ac (x3.1+1)),(bM x3.2 x3.1 e4))) else (some (.inr x3.2))
def uK (a_1:List ae): (Int×(List ae))→Option ((List ae)⊕(List ae)):=aL (oo a_1)
theorem AK (a_1:List ae): ∀a,Fin1 fun f=>oo a_1 f a:=by
 unfold oo
 repeat first|intro _|exact aU|exact bu|apply bx|apply bd|apply be|apply bm|apply bz
theorem RR (a_1:List ae)(x:Int×(List ae)):uK a_1 x=oo a_1 (uK a_1) x:=bB (AK a_1) x
def xV (a_1:List ae):Option (List ae):=
 (tz 16 [] (len a_1)).bind fun m2=>bf (ρ:=(List ae)) (uK a_1 (0,m2)) fun u6:(List ae)=>some u6
def lX (bF:Condition→Option Condition)(a_1:List Condition)(self:(Int×(List Condition))→Option ((List Condition)⊕(List Condition)))(x3:Int×(List Condition)):Option ((List Condition)⊕(List Condition)):=
 bif (decide (x3.1<(len a_1))) then ((aG a_1 x3.1).bind fun e4=>(bF e4).bind fun r5=>(aG x3.2 x3.1).bind fun e6=>self ((ac (x3.1+1)),(bM x3.2 x3.1 r5))) else (some (.inr x3.2))
def rN (bF:Condition→Option Condition)(a_1:List Condition): (Int×(List Condition))→Option ((List Condition)⊕(List Condition)):=aL (lX bF a_1)
theorem AH (bF:Condition→Option Condition)(a_1:List Condition): ∀a,Fin1 fun f=>lX bF a_1 f a:=by
 unfold lX
 repeat first|intro _|exact aU|exact bu|apply bx|apply bd|apply be|apply bm|apply bz
theorem RO (bF:Condition→Option Condition)(a_1:List Condition)(x:Int×(List Condition)):rN bF a_1 x=lX bF a_1 (rN bF a_1) x:=bB (AH bF a_1) x
def xT (bF:Condition→Option Condition)(a_1:List Condition):Option (List Condition):=
 (tz 56 (Condition.mk 0 [] 0 []) (len a_1)).bind fun m2=>bf (ρ:=(List Condition)) (rN bF a_1 (0,m2)) fun u7:(List Condition)=>some u7
def uH (bF:Condition→Option Condition)(a_1:Condition):Option Condition:=
 (xT bF a_1.Parts).bind fun r2=>some (Condition.mk a_1.Op a_1.Name a_1.Day r2)
def qI (bF:Condition→Option Condition)(x:Condition):Option Condition:=uH bF x
def CS (a_1:Condition):Option Condition:=aL qI a_1
theorem Zc:∀x,Fin1 fun bF=>qI bF x:=by
 unfold qI uH
 repeat first|intro _|exact aU|exact bu|exact js|exact ly|exact iM|exact jJ|exact ja|exact jb|apply bx|apply bd|apply be|apply bm|apply bz|apply qx|unfold xT|unfold rN|unfold lX
theorem acn (a_1:Condition):CS a_1=uH (aL qI) a_1:=bB Zc a_1
def xQ (a_1:Clause):Option Clause:=
 (CS a_1.When).bind fun r2=>some (Clause.mk a_1.Id a_1.Kind a_1.Party a_1.Action a_1.Other a_1.Amount r2 a_1.Within a_1.Repair)
def oh (a_1:List Clause)(self:(Int×(List Clause))→Option ((List Clause)⊕(List Clause)))(x3:Int×(List Clause)):Option ((List Clause)⊕(List Clause)):=
 bif (decide (x3.1<(len a_1))) then ((aG a_1 x3.1).bind fun e4=>(xQ e4).bind fun r5=>(aG x3.2 x3.1).bind fun e6=>self ((ac (x3.1+1)),(bM x3.2 x3.1 r5))) else (some (.inr x3.2))
def uG (a_1:List Clause): (Int×(List Clause))→Option ((List Clause)⊕(List Clause)):=aL (oh a_1)
theorem AG (a_1:List Clause): ∀a,Fin1 fun f=>oh a_1 f a:=by
 unfold oh
 repeat first|intro _|exact aU|exact bu|apply bx|apply bd|apply be|apply bm|apply bz
theorem RN (a_1:List Clause)(x:Int×(List Clause)):uG a_1 x=oh a_1 (uG a_1) x:=bB (AG a_1) x
def CQ (a_1:List Clause):Option (List Clause):=
 (tz 144 (Clause.mk [] 0 0 [] 0 0 (Condition.mk 0 [] 0 []) 0 []) (len a_1)).bind fun m2=>bf (ρ:=(List Clause)) (uG a_1 (0,m2)) fun u7:(List Clause)=>some u7
def tM (a_1:Contract):Option Contract:=
 (xV a_1.Parties).bind fun r2=>(CQ a_1.Clauses).bind fun r3=>some (Contract.mk r2 r3)
def xU (a_1:Duty):Option Duty:=
 some a_1
def ol (a_1:List Duty)(self:(Int×(List Duty))→Option ((List Duty)⊕(List Duty)))(x3:Int×(List Duty)):Option ((List Duty)⊕(List Duty)):=
 bif (decide (x3.1<(len a_1))) then ((aG a_1 x3.1).bind fun e4=>(xU e4).bind fun r5=>(aG x3.2 x3.1).bind fun e6=>self ((ac (x3.1+1)),(bM x3.2 x3.1 r5))) else (some (.inr x3.2))
def uI (a_1:List Duty): (Int×(List Duty))→Option ((List Duty)⊕(List Duty)):=aL (ol a_1)
theorem AI (a_1:List Duty): ∀a,Fin1 fun f=>ol a_1 f a:=by
 unfold ol
 repeat first|intro _|exact aU|exact bu|apply bx|apply bd|apply be|apply bm|apply bz
theorem RP (a_1:List Duty)(x:Int×(List Duty)):uI a_1 x=ol a_1 (uI a_1) x:=bB (AI a_1) x
def CX (a_1:List Duty):Option (List Duty):=
 (tz 32 (Duty.mk 0 0 0 0) (len a_1)).bind fun m2=>bf (ρ:=(List Duty)) (uI a_1 (0,m2)) fun u7:(List Duty)=>some u7
def om (a_1:List Int)(self:(Int×(List Int))→Option ((List Int)⊕(List Int)))(x3:Int×(List Int)):Option ((List Int)⊕(List Int)):=
 bif (decide (x3.1<(len a_1))) then ((aG a_1 x3.1).bind fun e4=>(aG x3.2 x3.1).bind fun e5=>self ((ac (x3.1+1)),(bM x3.2 x3.1 e4))) else (some (.inr x3.2))
def uJ (a_1:List Int): (Int×(List Int))→Option ((List Int)⊕(List Int)):=aL (om a_1)
theorem AJ (a_1:List Int): ∀a,Fin1 fun f=>om a_1 f a:=by
 unfold om
 repeat first|intro _|exact aU|exact bu|apply bx|apply bd|apply be|apply bm|apply bz
theorem RQ (a_1:List Int)(x:Int×(List Int)):uJ a_1 x=om a_1 (uJ a_1) x:=bB (AJ a_1) x
def CZ (a_1:List Int):Option (List Int):=
 (tz 8 0 (len a_1)).bind fun m2=>bf (ρ:=(List Int)) (uJ a_1 (0,m2)) fun u6:(List Int)=>some u6
def tN (a_1:State):Option State:=
 (xV a_1.Facts).bind fun r2=>(CX a_1.Duties).bind fun r3=>(CZ a_1.Balances).bind fun r4=>some (State.mk a_1.Day r2 r3 r4 a_1.Over)
def eF (x_1:Int)(a_2:Int)(b_3:Int):Option Bool:=
 bV (bif (decide (x_1≥a_2)) then (decide (x_1≤b_3)) else false) fun u4:Bool=>some u4
def yu (b_1:Int):Option Bool:=
 bV (bif (decide (b_1≥97)) then (bV (bif (decide (b_1≤122)) then true else (bV (bif (decide (b_1≥48)) then (decide (b_1≤57)) else false) fun u4:Bool=>u4)) fun u3:Bool=>u3) else (bV (bif (decide (b_1≥48)) then (decide (b_1≤57)) else false) fun u5:Bool=>u5)) fun u2:Bool=>some u2
def oH (s_1:ae)(self:Int→Option (Bool⊕Unit))(x4:Int):Option (Bool⊕Unit):=
 bif (decide (x4<(len s_1))) then ((aG s_1 x4).bind fun c5=>(yu (c5.toNat:Int)).bind fun r6=>bif (!r6) then (some (.inl false)) else (self (ac (x4+1)))) else (some (.inr ()))
def vc (s_1:ae): Int→Option (Bool⊕Unit):=aL (oH s_1)
theorem Bj (s_1:ae): ∀a,Fin1 fun f=>oH s_1 f a:=by
 unfold oH
 repeat first|intro _|exact aU|exact bu|apply bx|apply bd|apply be|apply bm|apply bz
theorem R6 (s_1:ae)(x:Int):vc s_1 x=oH s_1 (vc s_1) x:=bB (Bj s_1) x
def sn (s_1:ae):Option Bool:=
 (eF (len s_1) 1 8).bind fun r2=>bf (ρ:=Bool) (bif (!r2) then (some (.inr true)) else ((aG s_1 0).bind fun c16=>ct (ρ:=Bool) (bif (decide ((c16.toNat:Int)<97)) then (some (.inr true)) else ((aG s_1 0).bind fun c18=>some (.inr (decide ((c18.toNat:Int)>122))))) fun u17:Bool=>some (.inr u17))) fun u3:Bool=>bif u3 then (some false) else (bf (ρ:=Bool) (vc s_1 0) fun u7:Unit=>bV (bif (s_1==([116,114,117,101]:ae)) then (s_1==([116,114,117,101]:ae)) else (bV (bif (s_1==([102,114,111,109]:ae)) then (s_1==([102,114,111,109]:ae)) else (bV (bif (s_1==([110,111,116]:ae)) then (s_1==([110,111,116]:ae)) else (bV (bif (s_1==([97,110,100]:ae)) then (s_1==([97,110,100]:ae)) else (bV (bif (s_1==([111,114]:ae)) then (s_1==([111,114]:ae)) else (bV (bif (s_1==([98,111,116,104]:ae)) then (s_1==([98,111,116,104]:ae)) else (bV (bif (s_1==([101,105,116,104,101,114]:ae)) then (s_1==([101,105,116,104,101,114]:ae)) else (bV (bif (s_1==([105,116]:ae)) then (s_1==([105,116]:ae)) else (s_1==([105,110]:ae))) fun u15:Bool=>u15)) fun u14:Bool=>u14)) fun u13:Bool=>u13)) fun u12:Bool=>u12)) fun u11:Bool=>u11)) fun u10:Bool=>u10)) fun u9:Bool=>u9)) fun u8:Bool=>bif u8 then (some false) else (some true))
def oD (ay:List ae)(fq:ae)(self:Int→Option (Bool⊕Unit))(x3:Int):Option (Bool⊕Unit):=
 bif (decide (x3<(len ay))) then ((aG ay x3).bind fun e4=>bif (e4==fq) then (some (.inl true)) else (self (ac (x3+1)))) else (some (.inr ()))
def vb (ay:List ae)(fq:ae): Int→Option (Bool⊕Unit):=aL (oD ay fq)
theorem Bi (ay:List ae)(fq:ae): ∀a,Fin1 fun f=>oD ay fq f a:=by
 unfold oD
 repeat first|intro _|exact aU|exact bu|apply bx|apply bd|apply be|apply bm|apply bz
theorem R5 (ay:List ae)(fq:ae)(x:Int):vb ay fq x=oD ay fq (vb ay fq) x:=bB (Bi ay fq) x
def wh (ay:List ae)(fq:ae):Option Bool:=
 bf (ρ:=Bool) (vb ay fq 0) fun u5:Unit=>some false
def mf (c_1:Contract)(self:Int→Option (Bool⊕Unit))(x2:Int):Option (Bool⊕Unit):=
 bif (decide (x2<(len c_1.Parties))) then ((aG c_1.Parties x2).bind fun e3=>(sn e3).bind fun r4=>ct (ρ:=Bool) (bif (!r4) then (some (.inr true)) else ((lF c_1.Parties 0 x2).bind fun s6=>(aG c_1.Parties x2).bind fun e7=>(wh s6 e7).bind fun r8=>some (.inr r8))) fun u5:Bool=>bif u5 then (some (.inl false)) else (self (ac (x2+1)))) else (some (.inr ()))
def vm (c_1:Contract): Int→Option (Bool⊕Unit):=aL (mf c_1)
theorem Br (c_1:Contract): ∀a,Fin1 fun f=>mf c_1 f a:=by
 unfold mf
 repeat first|intro _|exact aU|exact bu|apply bx|apply bd|apply be|apply bm|apply bz
theorem HO (c_1:Contract)(x:Int):vm c_1 x=mf c_1 (vm c_1) x:=bB (Br c_1) x
def yC (c_1:Contract):Option Bool:=
 bf (ρ:=Bool) (vm c_1 0) fun u9:Unit=>(eF (len c_1.Parties) 2 4).bind fun r10=>some r10
def oK (c_1:Contract)(fD:ae)(self:Int→Option (Int⊕Unit))(x3:Int):Option (Int⊕Unit):=
 bif (decide (x3<(len c_1.Clauses))) then ((aG c_1.Clauses x3).bind fun e4=>bif (e4.Id==fD) then (some (.inl x3)) else (self (ac (x3+1)))) else (some (.inr ()))
def vk (c_1:Contract)(fD:ae): Int→Option (Int⊕Unit):=aL (oK c_1 fD)
theorem Bo (c_1:Contract)(fD:ae): ∀a,Fin1 fun f=>oK c_1 fD f a:=by
 unfold oK
 repeat first|intro _|exact aU|exact bu|apply bx|apply bd|apply be|apply bm|apply bz
theorem R8 (c_1:Contract)(fD:ae)(x:Int):vk c_1 fD x=oK c_1 fD (vk c_1 fD) x:=bB (Bo c_1 fD) x
def wl (c_1:Contract)(fD:ae):Option Int:=
 bf (ρ:=Int) (vk c_1 fD 0) fun u5:Unit=>some (-1)
def si (ip:Int):Option Bool:=
 (eF ip 0 36524).bind fun r2=>some r2
def DB (c_1:Condition):Option Bool:=
 bif (c_1.Op==1) then (bV (bif ((len c_1.Parts)==0) then (bV (bif (c_1.Name==([]:ae)) then (c_1.Day==0) else false) fun u3:Bool=>u3) else false) fun u2:Bool=>some u2) else (bif (c_1.Op==2) then (bf (ρ:=Bool) (bif ((len c_1.Parts)==0) then ((sn c_1.Name).bind fun r5=>bV (bif r5 then (c_1.Day==0) else false) fun u6:Bool=>some (.inr u6)) else (some (.inr false))) fun u4:Bool=>some u4) else (bif (c_1.Op==3) then (bf (ρ:=Bool) (bif ((len c_1.Parts)==0) then (ct (ρ:=Bool) (bif (c_1.Name==([]:ae)) then ((si c_1.Day).bind fun r9=>some (.inr r9)) else (some (.inr false))) fun u8:Bool=>some (.inr u8)) else (some (.inr false))) fun u7:Bool=>some u7) else (bif (c_1.Op==4) then (bV (bif ((len c_1.Parts)==1) then (bV (bif (c_1.Name==([]:ae)) then (c_1.Day==0) else false) fun u11:Bool=>u11) else false) fun u10:Bool=>some u10) else (bV (bif (c_1.Op==5) then (c_1.Op==5) else (c_1.Op==6)) fun u12:Bool=>bif u12 then (bV (bif ((len c_1.Parts)==2) then (bV (bif (c_1.Name==([]:ae)) then (c_1.Day==0) else false) fun u14:Bool=>u14) else false) fun u13:Bool=>some u13) else (some false)))))
def l8 (cH:Condition→Option Bool)(c_1:Condition)(self:Int→Option (Bool⊕Unit))(x3:Int):Option (Bool⊕Unit):=
 bif (decide (x3<(len c_1.Parts))) then ((aG c_1.Parts x3).bind fun e4=>(cH e4).bind fun r5=>bif (!r5) then (some (.inl false)) else (self (ac (x3+1)))) else (some (.inr ()))
def rT (cH:Condition→Option Bool)(c_1:Condition): Int→Option (Bool⊕Unit):=aL (l8 cH c_1)
theorem Bh (cH:Condition→Option Bool)(c_1:Condition): ∀a,Fin1 fun f=>l8 cH c_1 f a:=by
 unfold l8
 repeat first|intro _|exact aU|exact bu|apply bx|apply bd|apply be|apply bm|apply bz
theorem R4 (cH:Condition→Option Bool)(c_1:Condition)(x:Int):rT cH c_1 x=l8 cH c_1 (rT cH c_1) x:=bB (Bh cH c_1) x
def va (cH:Condition→Option Bool)(c_1:Condition):Option Bool:=
 (DB c_1).bind fun r2=>bif (!r2) then (some false) else (bf (ρ:=Bool) (rT cH c_1 0) fun u6:Unit=>some true)
def sk (cH:Condition→Option Bool)(x:Condition):Option Bool:=va cH x
def JM (c_1:Condition):Option Bool:=aL sk c_1
theorem ZS:∀x,Fin1 fun cH=>sk cH x:=by
 unfold sk va
 repeat first|intro _|exact aU|exact bu|exact js|exact ly|exact iM|exact jJ|exact ja|exact jb|apply bx|apply bd|apply be|apply bm|apply bz|apply qx|unfold rT|unfold l8
theorem acv (c_1:Condition):JM c_1=va (aL sk) c_1:=bB ZS c_1
def kC (cJ:Condition→Option Int)(c_1:Condition)(self:(Int×Int)→Option (Int⊕Int))(x2:Int×Int):Option (Int⊕Int):=
 bif (decide (x2.2<(len c_1.Parts))) then ((aG c_1.Parts x2.2).bind fun e3=>(cJ e3).bind fun r4=>self ((ac (x2.1+r4)),(ac (x2.2+1)))) else (some (.inr x2.1))
def mM (cJ:Condition→Option Int)(c_1:Condition): (Int×Int)→Option (Int⊕Int):=aL (kC cJ c_1)
theorem Bm (cJ:Condition→Option Int)(c_1:Condition): ∀a,Fin1 fun f=>kC cJ c_1 f a:=by
 unfold kC
 repeat first|intro _|exact aU|exact bu|apply bx|apply bd|apply be|apply bm|apply bz
theorem Hx (cJ:Condition→Option Int)(c_1:Condition)(x:Int×Int):mM cJ c_1 x=kC cJ c_1 (mM cJ c_1) x:=bB (Bm cJ c_1) x
def vh (cJ:Condition→Option Int)(c_1:Condition):Option Int:=
 bf (ρ:=Int) (mM cJ c_1 (1,0)) fun u5:Int=>some u5
def mb (cJ:Condition→Option Int)(x:Condition):Option Int:=vh cJ x
def NI (c_1:Condition):Option Int:=aL mb c_1
theorem Z1:∀x,Fin1 fun cJ=>mb cJ x:=by
 unfold mb vh
 repeat first|intro _|exact aU|exact bu|exact js|exact ly|exact iM|exact jJ|exact ja|exact jb|apply bx|apply bd|apply be|apply bm|apply bz|apply qx|unfold mM|unfold kC
theorem acx (c_1:Condition):NI c_1=vh (aL mb) c_1:=bB Z1 c_1
def DE (c_1:Condition):Option Bool:=
 (JM c_1).bind fun r2=>bf (ρ:=Bool) (bif r2 then ((NI c_1).bind fun r4=>some (.inr (decide (r4≤15)))) else (some (.inr false))) fun u3:Bool=>some u3
def DJ (c_1:Contract)(i_2:Int):Option Bool:=
 (aG c_1.Clauses i_2).bind fun e3=>(sn e3.Id).bind fun r4=>bf (ρ:=Bool) (bif (!r4) then (some (.inr true)) else ((sn e3.Action).bind fun r17=>ct (ρ:=Bool) (bif (!r17) then (some (.inr true)) else ((eF e3.Kind 1 4).bind fun r19=>ct (ρ:=Bool) (bif (!r19) then (some (.inr true)) else ((eF e3.Party 0 (ac ((len c_1.Parties) - 1))).bind fun r21=>ct (ρ:=Bool) (bif (!r21) then (some (.inr true)) else ((eF e3.Other 0 (ac ((len c_1.Parties) - 1))).bind fun r23=>ct (ρ:=Bool) (bif (!r23) then (some (.inr true)) else (ct (ρ:=Bool) (bif (e3.Party==e3.Other) then (some (.inr true)) else ((DE e3.When).bind fun r26=>some (.inr (!r26)))) fun u25:Bool=>some (.inr u25))) fun u24:Bool=>some (.inr u24))) fun u22:Bool=>some (.inr u22))) fun u20:Bool=>some (.inr u20))) fun u18:Bool=>some (.inr u18))) fun u5:Bool=>bif u5 then (some false) else ((eF e3.Amount 0 1000000).bind fun r6=>bf (ρ:=Bool) (bif (!r6) then (some (.inr true)) else ((eF e3.Within 0 400).bind fun r13=>bV (bif (!r13) then true else (bV (bif (e3.Kind != 1) then (bV (bif (e3.Amount != 0) then true else (e3.Within != 0)) fun u16:Bool=>u16) else false) fun u15:Bool=>u15)) fun u14:Bool=>some (.inr u14))) fun u7:Bool=>bif u7 then (some false) else (bif (e3.Repair==([]:ae)) then (some true) else ((wl c_1 e3.Repair).bind fun r8=>bf (ρ:=Bool) (bif (decide (r8≥0)) then (ct (ρ:=Bool) (bif (r8 != i_2) then ((aG c_1.Clauses r8).bind fun e11=>bV (bif (e11.Kind==1) then (e3.Kind != 3) else false) fun u12:Bool=>some (.inr u12)) else (some (.inr false))) fun u10:Bool=>some (.inr u10)) else (some (.inr false))) fun u9:Bool=>some u9)))
def ma (l_8:List ae)(s_9:ae)(self:Int→Option ((List ae)⊕(ae×Int×(List ae))))(x3:Int):Option ((List ae)⊕(ae×Int×(List ae))):=
 ct (ρ:=(List ae)) (bif (decide (x3<(len l_8))) then ((aG l_8 x3).bind fun e5=>some (.inr (Op.bytesLess e5 s_9))) else (some (.inr false))) fun u4:Bool=>bif u4 then (self (ac (x3+1))) else (some (.inr (s_9,x3,l_8)))
def vf (l_8:List ae)(s_9:ae): Int→Option ((List ae)⊕(ae×Int×(List ae))):=aL (ma l_8 s_9)
theorem Bl (l_8:List ae)(s_9:ae): ∀a,Fin1 fun f=>ma l_8 s_9 f a:=by
 unfold ma
 repeat first|intro _|exact aU|exact bu|apply bx|apply bd|apply be|apply bm|apply bz
theorem Hu (l_8:List ae)(s_9:ae)(x:Int):vf l_8 s_9 x=ma l_8 s_9 (vf l_8 s_9) x:=bB (Bl l_8 s_9) x
def yq (l_8:List ae)(s_9:ae):Option (List ae):=
 bf (ρ:=(List ae)) (vf l_8 s_9 0) fun u6:ae×Int×(List ae)=>bf (ρ:=(List ae)) (bif (decide (u6.2.1<(len u6.2.2))) then ((aG u6.2.2 u6.2.1).bind fun e15=>some (.inr (e15==u6.1))) else (some (.inr false))) fun u7:Bool=>bif u7 then (some u6.2.2) else ((jU u6.2.2.length 0 u6.2.1).bind fun s8=>(jV u6.2.2 (0+Int.toNat (0)) (Int.toNat u6.2.1 - Int.toNat (0))).bind fun p9=>(jh 16 ([]:List ae) p9).bind fun a10=>(jh 16 a10 [u6.1]).bind fun a11=>(jU u6.2.2.length u6.2.1 (len u6.2.2)).bind fun s12=>(jV u6.2.2 (0+Int.toNat u6.2.1) (Int.toNat (len u6.2.2) - Int.toNat u6.2.1)).bind fun p13=>(jh 16 a11 p13).bind fun a14=>some a14)
def kB (cI:((List ae)×Condition)→Option (List ae))(l_4:List ae)(c_5:Condition)(self:(Int×(List ae))→Option ((List ae)⊕(List ae)))(x4:Int×(List ae)):Option ((List ae)⊕(List ae)):=
 bif (decide (x4.1<(len c_5.Parts))) then ((aG c_5.Parts x4.1).bind fun e5=>(cI (x4.2,e5)).bind fun r6=>self ((ac (x4.1+1)),r6)) else (some (.inr x4.2))
def mL (cI:((List ae)×Condition)→Option (List ae))(l_4:List ae)(c_5:Condition): (Int×(List ae))→Option ((List ae)⊕(List ae)):=aL (kB cI l_4 c_5)
theorem Bk (cI:((List ae)×Condition)→Option (List ae))(l_4:List ae)(c_5:Condition): ∀a,Fin1 fun f=>kB cI l_4 c_5 f a:=by
 unfold kB
 repeat first|intro _|exact aU|exact bu|apply bx|apply bd|apply be|apply bm|apply bz
theorem Hr (cI:((List ae)×Condition)→Option (List ae))(l_4:List ae)(c_5:Condition)(x:Int×(List ae)):mL cI l_4 c_5 x=kB cI l_4 c_5 (mL cI l_4 c_5) x:=bB (Bk cI l_4 c_5) x
def vd (cI:((List ae)×Condition)→Option (List ae))(l_4:List ae)(c_5:Condition):Option (List ae):=
 bif (c_5.Op==2) then ((yq l_4 c_5.Name).bind fun r3=>some r3) else (bf (ρ:=(List ae)) (mL cI l_4 c_5 (0,l_4)) fun u7:(List ae)=>some u7)
def l9 (cI:((List ae)×Condition)→Option (List ae))(x:(List ae)×Condition):Option (List ae):=vd cI x.1 x.2
def NF (l_4:List ae)(c_5:Condition):Option (List ae):=aL l9 (l_4,c_5)
theorem ZX:∀x,Fin1 fun cI=>l9 cI x:=by
 unfold l9 vd
 repeat first|intro _|exact aU|exact bu|exact js|exact ly|exact iM|exact jJ|exact ja|exact jb|apply bx|apply bd|apply be|apply bm|apply bz|apply qx|unfold mL|unfold kB
theorem acw (l_4:List ae)(c_5:Condition):NF l_4 c_5=vd (aL l9) l_4 c_5:=bB ZX (l_4,c_5)
def me (c_1:Contract)(self:(Int×(List ae))→Option ((List ae)⊕(List ae)))(x2:Int×(List ae)):Option ((List ae)⊕(List ae)):=
 bif (decide (x2.1<(len c_1.Clauses))) then ((aG c_1.Clauses x2.1).bind fun e3=>(yq x2.2 e3.Action).bind fun r4=>(aG c_1.Clauses x2.1).bind fun e5=>(NF r4 e5.When).bind fun r6=>self ((ac (x2.1+1)),r6)) else (some (.inr x2.2))
def oL (c_1:Contract): (Int×(List ae))→Option ((List ae)⊕(List ae)):=aL (me c_1)
theorem Bq (c_1:Contract): ∀a,Fin1 fun f=>me c_1 f a:=by
 unfold me
 repeat first|intro _|exact aU|exact bu|apply bx|apply bd|apply be|apply bm|apply bz
theorem HK (c_1:Contract)(x:Int×(List ae)):oL c_1 x=me c_1 (oL c_1) x:=bB (Bq c_1) x
def pZ (c_1:Contract):Option (List ae):=
 bf (ρ:=(List ae)) (oL c_1 (0,[])) fun u7:(List ae)=>some u7
def md (c_1:Contract)(self:Int→Option (Bool⊕Unit))(x4:Int):Option (Bool⊕Unit):=
 bif (decide (x4<(len c_1.Clauses))) then ((aG c_1.Clauses x4).bind fun e5=>(wl c_1 e5.Id).bind fun r6=>ct (ρ:=Bool) (bif (r6 != x4) then (some (.inr true)) else ((DJ c_1 x4).bind fun r8=>some (.inr (!r8)))) fun u7:Bool=>bif u7 then (some (.inl false)) else (self (ac (x4+1)))) else (some (.inr ()))
def mN (c_1:Contract): Int→Option (Bool⊕Unit):=aL (md c_1)
theorem Bp (c_1:Contract): ∀a,Fin1 fun f=>md c_1 f a:=by
 unfold md
 repeat first|intro _|exact aU|exact bu|apply bx|apply bd|apply be|apply bm|apply bz
theorem HH (c_1:Contract)(x:Int):mN c_1 x=md c_1 (mN c_1) x:=bB (Bp c_1) x
def DN (c_1:Contract):Option Bool:=
 (eF (len c_1.Clauses) 1 12).bind fun r2=>bf (ρ:=Bool) (bif (!r2) then (some (.inr true)) else ((yC c_1).bind fun r11=>some (.inr (!r11)))) fun u3:Bool=>bif u3 then (some false) else (bf (ρ:=Bool) (mN c_1 0) fun u9:Unit=>(pZ c_1).bind fun r10=>some (decide ((len r10)≤16)))
def kA (ay:List ae)(self:Int→Option (Bool⊕Unit))(x2:Int):Option (Bool⊕Unit):=
 bV (bif (decide (x2<(len ay))) then (decide (x2≤16)) else false) fun u3:Bool=>bif u3 then ((aG ay x2).bind fun e4=>(sn e4).bind fun r5=>ct (ρ:=Bool) (bif (!r5) then (some (.inr true)) else (ct (ρ:=Bool) (bif (decide (x2>0)) then ((aG ay (ac (x2 - 1))).bind fun e8=>(aG ay x2).bind fun e9=>some (.inr (!(Op.bytesLess e8 e9)))) else (some (.inr false))) fun u7:Bool=>some (.inr u7))) fun u6:Bool=>bif u6 then (some (.inl false)) else (self (ac (x2+1)))) else (some (.inr ()))
def jr (ay:List ae): Int→Option (Bool⊕Unit):=aL (kA ay)
theorem Bg (ay:List ae): ∀a,Fin1 fun f=>kA ay f a:=by
 unfold kA
 repeat first|intro _|exact aU|exact bu|apply bx|apply bd|apply be|apply bm|apply bz
theorem wg (ay:List ae)(x:Int):jr ay x=kA ay (jr ay) x:=bB (Bg ay) x
def Dz (ay:List ae):Option Bool:=
 bf (ρ:=Bool) (jr ay 0) fun u10:Unit=>some (decide ((len ay)≤16))
def oJ (c_1:Contract)(i_2:Int)(self:Int→Option (Bool⊕Unit))(x3:Int):Option (Bool⊕Unit):=
 bif (decide (x3<(len c_1.Clauses))) then ((aG c_1.Clauses x3).bind fun e4=>(aG c_1.Clauses i_2).bind fun e5=>bif (e4.Repair==e5.Id) then (some (.inl true)) else (self (ac (x3+1)))) else (some (.inr ()))
def vj (c_1:Contract)(i_2:Int): Int→Option (Bool⊕Unit):=aL (oJ c_1 i_2)
theorem Bn (c_1:Contract)(i_2:Int): ∀a,Fin1 fun f=>oJ c_1 i_2 f a:=by
 unfold oJ
 repeat first|intro _|exact aU|exact bu|apply bx|apply bd|apply be|apply bm|apply bz
theorem R7 (c_1:Contract)(i_2:Int)(x:Int):vj c_1 i_2 x=oJ c_1 i_2 (vj c_1 i_2) x:=bB (Bn c_1 i_2) x
def DL (c_1:Contract)(i_2:Int):Option Bool:=
 bf (ρ:=Bool) (vj c_1 i_2 0) fun u6:Unit=>some false
def mg (s_1:State)(i_2:Int)(self:(Int×Int)→Option (Int⊕Int))(x3:Int×Int):Option (Int⊕Int):=
 bif (decide (x3.2<(len s_1.Duties))) then ((aG s_1.Duties x3.2).bind fun e4=>bV (bif (e4.Clause==i_2) then (ac (x3.1+1)) else x3.1) fun u5:Int=>self (u5,(ac (x3.2+1)))) else (some (.inr x3.1))
def mO (s_1:State)(i_2:Int): (Int×Int)→Option (Int⊕Int):=aL (mg s_1 i_2)
theorem Bs (s_1:State)(i_2:Int): ∀a,Fin1 fun f=>mg s_1 i_2 f a:=by
 unfold mg
 repeat first|intro _|exact aU|exact bu|apply bx|apply bd|apply be|apply bm|apply bz
theorem HS (s_1:State)(i_2:Int)(x:Int×Int):mO s_1 i_2 x=mg s_1 i_2 (mO s_1 i_2) x:=bB (Bs s_1 i_2) x
def DR (s_1:State)(i_2:Int):Option Int:=
 bf (ρ:=Int) (mO s_1 i_2 (0,0)) fun u6:Int=>some u6
def DT (c_1:Contract)(s_2:State)(k_3:Int):Option Bool:=
 (aG s_2.Duties k_3).bind fun e4=>(eF e4.Clause 0 (ac ((len c_1.Clauses) - 1))).bind fun r5=>bf (ρ:=Bool) (bif (!r5) then (some (.inr true)) else ((aG c_1.Clauses e4.Clause).bind fun e35=>ct (ρ:=Bool) (bif (e35.Kind != 1) then (some (.inr true)) else ((eF e4.Since 0 s_2.Day).bind fun r37=>ct (ρ:=Bool) (bif (!r37) then (some (.inr true)) else ((aG c_1.Clauses e4.Clause).bind fun e39=>ct (ρ:=Bool) (bif (e4.Due != (ac (e4.Since+e39.Within))) then (some (.inr true)) else ((si e4.Due).bind fun r41=>ct (ρ:=Bool) (bif (!r41) then (some (.inr true)) else ((eF e4.Status 1 4).bind fun r43=>some (.inr (!r43)))) fun u42:Bool=>some (.inr u42))) fun u40:Bool=>some (.inr u40))) fun u38:Bool=>some (.inr u38))) fun u36:Bool=>some (.inr u36))) fun u6:Bool=>bif u6 then (some false) else (bf (ρ:=Bool) (bif (decide (k_3>0)) then ((aG s_2.Duties (ac (k_3 - 1))).bind fun e11=>bV (bif (decide (e11.Since>e4.Since)) then true else (bV (bif (e4.Status==1) then (bV (bif (decide (e4.Due<s_2.Day)) then true else (bV (bif s_2.Over then true else (bV (bif (e4.Status==3) then (bV (bif (decide (e4.Due≥s_2.Day)) then true else (bV (bif (e4.Status==4) then (!s_2.Over) else false) fun u18:Bool=>u18)) fun u17:Bool=>u17) else (bV (bif (e4.Status==4) then (!s_2.Over) else false) fun u19:Bool=>u19)) fun u16:Bool=>u16)) fun u15:Bool=>u15)) fun u14:Bool=>u14) else (bV (bif (e4.Status==3) then (bV (bif (decide (e4.Due≥s_2.Day)) then true else (bV (bif (e4.Status==4) then (!s_2.Over) else false) fun u22:Bool=>u22)) fun u21:Bool=>u21) else (bV (bif (e4.Status==4) then (!s_2.Over) else false) fun u23:Bool=>u23)) fun u20:Bool=>u20)) fun u13:Bool=>u13)) fun u12:Bool=>some (.inr u12)) else (bV (bif (e4.Status==1) then (bV (bif (decide (e4.Due<s_2.Day)) then true else (bV (bif s_2.Over then true else (bV (bif (e4.Status==3) then (bV (bif (decide (e4.Due≥s_2.Day)) then true else (bV (bif (e4.Status==4) then (!s_2.Over) else false) fun u29:Bool=>u29)) fun u28:Bool=>u28) else (bV (bif (e4.Status==4) then (!s_2.Over) else false) fun u30:Bool=>u30)) fun u27:Bool=>u27)) fun u26:Bool=>u26)) fun u25:Bool=>u25) else (bV (bif (e4.Status==3) then (bV (bif (decide (e4.Due≥s_2.Day)) then true else (bV (bif (e4.Status==4) then (!s_2.Over) else false) fun u33:Bool=>u33)) fun u32:Bool=>u32) else (bV (bif (e4.Status==4) then (!s_2.Over) else false) fun u34:Bool=>u34)) fun u31:Bool=>u31)) fun u24:Bool=>some (.inr u24))) fun u7:Bool=>bif u7 then (some false) else ((DL c_1 e4.Clause).bind fun r8=>bf (ρ:=Bool) (bif r8 then (some (.inr true)) else ((DR s_2 e4.Clause).bind fun r10=>some (.inr (r10==1)))) fun u9:Bool=>some u9))
def Dw (x_1:Int):Option Bool:=
 (eF x_1 (-1000000000) 1000000000).bind fun r2=>some r2
def l7 (ay:List Int)(self:(Int×Int)→Option (Int⊕Int))(x2:Int×Int):Option (Int⊕Int):=
 bif (decide (x2.2<(len ay))) then ((aG ay x2.2).bind fun e3=>self ((ac (x2.1+e3)),(ac (x2.2+1)))) else (some (.inr x2.1))
def lr (ay:List Int): (Int×Int)→Option (Int⊕Int):=aL (l7 ay)
theorem Bf (ay:List Int): ∀a,Fin1 fun f=>l7 ay f a:=by
 unfold l7
 repeat first|intro _|exact aU|exact bu|apply bx|apply bd|apply be|apply bm|apply bz
theorem G9 (ay:List Int)(x:Int×Int):lr ay x=l7 ay (lr ay) x:=bB (Bf ay) x
def we (ay:List Int):Option Int:=
 bf (ρ:=Int) (lr ay (0,0)) fun u4:Int=>some u4
def oM (c_1:Contract)(s_2:State)(r5:(List ae))(self:Int→Option (Bool⊕Unit))(x6:Int):Option (Bool⊕Unit):=
 bif (decide (x6<(len s_2.Facts))) then ((aG s_2.Facts x6).bind fun e7=>(wh r5 e7).bind fun r8=>bif (!r8) then (some (.inl false)) else (self (ac (x6+1)))) else (some (.inr ()))
def vo (c_1:Contract)(s_2:State)(r5:(List ae)):Int→Option (Bool⊕Unit):=aL (oM c_1 s_2 r5)
theorem Bt (c_1:Contract)(s_2:State)(r5:(List ae)):∀a,Fin1 fun f=>oM c_1 s_2 r5 f a:=by
 unfold oM
 repeat first|intro _|exact aU|exact bu|apply bx|apply bd|apply be|apply bm|apply bz
theorem R9 (c_1:Contract)(s_2:State)(r5:(List ae))(x:Int):vo c_1 s_2 r5 x=oM c_1 s_2 r5 (vo c_1 s_2 r5) x:=bB (Bt c_1 s_2 r5) x
def mh (c_1:Contract)(s_2:State)(self:Int→Option (Bool⊕Unit))(x10:Int):Option (Bool⊕Unit):=
 bif (decide (x10<(len s_2.Duties))) then ((DT c_1 s_2 x10).bind fun r11=>bif (!r11) then (some (.inl false)) else (self (ac (x10+1)))) else (some (.inr ()))
def oO (c_1:Contract)(s_2:State): Int→Option (Bool⊕Unit):=aL (mh c_1 s_2)
theorem Bu (c_1:Contract)(s_2:State): ∀a,Fin1 fun f=>mh c_1 s_2 f a:=by
 unfold mh
 repeat first|intro _|exact aU|exact bu|apply bx|apply bd|apply be|apply bm|apply bz
theorem HX (c_1:Contract)(s_2:State)(x:Int):oO c_1 s_2 x=mh c_1 s_2 (oO c_1 s_2) x:=bB (Bu c_1 s_2) x
def oP (c_1:Contract)(s_2:State)(self:Int→Option (Bool⊕Unit))(x13:Int):Option (Bool⊕Unit):=
 bif (decide (x13<(len s_2.Balances))) then ((aG s_2.Balances x13).bind fun e14=>(Dw e14).bind fun r15=>bif (!r15) then (some (.inl false)) else (self (ac (x13+1)))) else (some (.inr ()))
def vp (c_1:Contract)(s_2:State): Int→Option (Bool⊕Unit):=aL (oP c_1 s_2)
theorem Bv (c_1:Contract)(s_2:State): ∀a,Fin1 fun f=>oP c_1 s_2 f a:=by
 unfold oP
 repeat first|intro _|exact aU|exact bu|apply bx|apply bd|apply be|apply bm|apply bz
theorem Sa (c_1:Contract)(s_2:State)(x:Int):vp c_1 s_2 x=oP c_1 s_2 (vp c_1 s_2) x:=bB (Bv c_1 s_2) x
def su (c_1:Contract)(s_2:State):Option Bool:=
 (DN c_1).bind fun r3=>bf (ρ:=Bool) (bif (!r3) then (some (.inr true)) else ((si s_2.Day).bind fun r18=>ct (ρ:=Bool) (bif (!r18) then (some (.inr true)) else ((Dz s_2.Facts).bind fun r20=>bV (bif (!r20) then true else (bV (bif (decide ((len s_2.Duties)>24)) then true else ((len s_2.Balances) != (len c_1.Parties))) fun u22:Bool=>u22)) fun u21:Bool=>some (.inr u21))) fun u19:Bool=>some (.inr u19))) fun u4:Bool=>bif u4 then (some false) else ((pZ c_1).bind fun r5=>bf (ρ:=Bool) (vo c_1 s_2 r5 0) fun u9:Unit=>bf (ρ:=Bool) (oO c_1 s_2 0) fun u12:Unit=>bf (ρ:=Bool) (vp c_1 s_2 0) fun u16:Unit=>(we s_2.Balances).bind fun r17=>some (r17==0))
def Dt (c_1:Contract)(s_2:State)(cg:Int):Option Bool:=
 (su c_1 s_2).bind fun r4=>bf (ρ:=Bool) (bif r4 then ((eF cg 0 (ac ((len c_1.Parties) - 1))).bind fun r6=>some (.inr r6)) else (some (.inr false))) fun u5:Bool=>some u5
def l6 (s_1:State)(dQ:List Int)(k_3:Int)(self:Int→Option ((List Int)⊕Int))(x4:Int):Option ((List Int)⊕Int):=
 ct (ρ:=(List Int)) (bif (decide (x4>0)) then ((aG dQ (ac (x4 - 1))).bind fun e6=>(aG s_1.Duties e6).bind fun e7=>(aG s_1.Duties k_3).bind fun e8=>some (.inr (decide (e7.Due>e8.Due)))) else (some (.inr false))) fun u5:Bool=>bif u5 then (self (ac (x4 - 1))) else (some (.inr x4))
def pX (s_1:State)(dQ:List Int)(k_3:Int): Int→Option ((List Int)⊕Int):=aL (l6 s_1 dQ k_3)
theorem Be (s_1:State)(dQ:List Int)(k_3:Int): ∀a,Fin1 fun f=>l6 s_1 dQ k_3 f a:=by
 unfold l6
 repeat first|intro _|exact aU|exact bu|apply bx|apply bd|apply be|apply bm|apply bz
theorem G4 (s_1:State)(dQ:List Int)(k_3:Int)(x:Int):pX s_1 dQ k_3 x=l6 s_1 dQ k_3 (pX s_1 dQ k_3) x:=bB (Be s_1 dQ k_3) x
def wd (s_1:State)(dQ:List Int)(k_3:Int):Option (List Int):=
 bf (ρ:=(List Int)) (pX s_1 dQ k_3 (len dQ)) fun u9:Int=>(lF dQ 0 u9).bind fun s10=>(jh 8 ([]:List Int) s10).bind fun a11=>(jh 8 a11 [k_3]).bind fun a12=>(lF dQ u9 (len dQ)).bind fun s13=>(jh 8 a12 s13).bind fun a14=>some a14
def l5 (c_1:Contract)(s_2:State)(d9:Int)(fx:Int)(self:(Int×(List Int))→Option ((List Int)⊕(List Int)))(x5:Int×(List Int)):Option ((List Int)⊕(List Int)):=
 bif (decide (x5.1<(len s_2.Duties))) then ((aG s_2.Duties x5.1).bind fun e6=>(aG c_1.Clauses e6.Clause).bind fun e7=>(aG s_2.Duties x5.1).bind fun e8=>bV (bif (e8.Status==1) then (bV (bif (decide (d9<0)) then (bV (bif (decide (fx<0)) then true else (e7.Other==fx)) fun u13:Bool=>u13) else (bV (bif (e7.Party==d9) then (bV (bif (decide (fx<0)) then true else (e7.Other==fx)) fun u15:Bool=>u15) else false) fun u14:Bool=>u14)) fun u12:Bool=>u12) else false) fun u9:Bool=>ct (ρ:=(List Int)) (bif u9 then ((wd s_2 x5.2 x5.1).bind fun r11=>some (.inr r11)) else (some (.inr x5.2))) fun u10:(List Int)=>self ((ac (x5.1+1)),u10)) else (some (.inr x5.2))
def lq (c_1:Contract)(s_2:State)(d9:Int)(fx:Int): (Int×(List Int))→Option ((List Int)⊕(List Int)):=aL (l5 c_1 s_2 d9 fx)
theorem Bd (c_1:Contract)(s_2:State)(d9:Int)(fx:Int): ∀a,Fin1 fun f=>l5 c_1 s_2 d9 fx f a:=by
 unfold l5
 repeat first|intro _|exact aU|exact bu|apply bx|apply bd|apply be|apply bm|apply bz
theorem GW (c_1:Contract)(s_2:State)(d9:Int)(fx:Int)(x:Int×(List Int)):lq c_1 s_2 d9 fx x=l5 c_1 s_2 d9 fx (lq c_1 s_2 d9 fx) x:=bB (Bd c_1 s_2 d9 fx) x
def Dr (c_1:Contract)(s_2:State)(d9:Int)(fx:Int):Option (List Int):=
 bf (ρ:=(List Int)) (lq c_1 s_2 d9 fx (0,[])) fun u16:(List Int)=>some u16
def Dp (c_1:Contract)(s_2:State)(cg:Int):Option ((List Int)×Bool):=
 (Dt c_1 s_2 cg).bind fun r4=>bif (!r4) then (some ([],false)) else ((Dr c_1 s_2 cg (-1)).bind fun r5=>some (r5,true))
def jp (n_1:Int)(pC:Int)(mr:Int):Option Bool:=
 bV (bif (decide (n_1≥pC)) then (decide (n_1≤mr)) else false) fun u4:Bool=>some u4
def MR (s_1:ae)(c_2:Int):Option Int:=
 (sW s_1 c_2).bind fun r3=>some r3
def MO (s_1:ae)(bq:ae):Option Int:=
 bV (bif ((len bq)==0) then true else (bq==s_1)) fun u3:Bool=>bif u3 then (some 0) else (bif ((len bq)==1) then ((aG bq 0).bind fun c4=>(MR s_1 (c4.toNat:Int)).bind fun r5=>some r5) else (bif (decide ((len bq)≥(len s_1))) then (some (-1)) else none))
def JP (s_1:ae)(bq:ae):Option Int:=
 (MO s_1 bq).bind fun r3=>some r3
def tg (s_1:ae)(bq:ae)(self:(ae×Int)→Option (Int⊕Unit))(x5:ae×Int):Option (Int⊕Unit):=
 (JP x5.1 bq).bind fun r6=>bif (r6==(-1)) then (some (.inl x5.2)) else ((lF x5.1 (ac (r6+(len bq))) (len x5.1)).bind fun s7=>self (s7,(ac (x5.2+1))))
def QY (s_1:ae)(bq:ae): (ae×Int)→Option (Int⊕Unit):=aL (tg s_1 bq)
theorem Qq (s_1:ae)(bq:ae): ∀a,Fin1 fun f=>tg s_1 bq f a:=by
 unfold tg
 repeat first|intro _|exact aU|exact bu|apply bx|apply bd|apply be|apply bm|apply bz
def NR (s_1:ae)(bq:ae):Option Int:=
 bif ((len bq)==0) then none else (bif ((len bq)==1) then ((aG bq 0).bind fun c3=>(zz s_1 (c3.toNat:Int)).bind fun r4=>some r4) else (bf (ρ:=Int) (QY s_1 bq (s_1,0)) fun u8:Unit=>none))
def th (s_1:ae)(ed:ae)(dS:Int)(n_4:Int)(u5:Int)(self:(ae×Int×(List ae))→Option ((List ae)⊕(ae×Int×(List ae))))(x7:ae×Int×(List ae)):Option ((List ae)⊕(ae×Int×(List ae))):=
 bif (decide (x7.2.1<(ac ((if (ac ((len s_1)+1))<u5 then (ac ((len s_1)+1)) else u5) - 1)))) then ((JP x7.1 ed).bind fun r8=>bif (decide (r8<0)) then (some (.inr (x7.1,x7.2.1,x7.2.2))) else ((lF x7.1 0 (ac (r8+dS))).bind fun s9=>(aG x7.2.2 x7.2.1).bind fun e10=>(lF x7.1 (ac (r8+(len ed))) (len x7.1)).bind fun s11=>self (s11,(ac (x7.2.1+1)),(bM x7.2.2 x7.2.1 s9)))) else (some (.inr (x7.1,x7.2.1,x7.2.2)))
def zI (s_1:ae)(ed:ae)(dS:Int)(n_4:Int)(u5:Int):(ae×Int×(List ae))→Option ((List ae)⊕(ae×Int×(List ae))):=aL (th s_1 ed dS n_4 u5)
theorem Bw (s_1:ae)(ed:ae)(dS:Int)(n_4:Int)(u5:Int):∀a,Fin1 fun f=>th s_1 ed dS n_4 u5 f a:=by
 unfold th
 repeat first|intro _|exact aU|exact bu|apply bx|apply bd|apply be|apply bm|apply bz
def NT (s_1:ae)(ed:ae)(dS:Int)(n_4:Int):Option (List ae):=
 bif (n_4==0) then (some []) else (bif (ed==([]:ae)) then none else (bf (ρ:=(List ae)) (bif (decide (n_4<0)) then ((NR s_1 ed).bind fun r16=>some (.inr (ac (r16+1)))) else (some (.inr n_4))) fun u5:Int=>(tz 16 [] (if (ac ((len s_1)+1))<u5 then (ac ((len s_1)+1)) else u5)).bind fun m6=>bf (ρ:=(List ae)) (zI s_1 ed dS n_4 u5 (s_1,0,m6)) fun u12:ae×Int×(List ae)=>(aG u12.2.2 u12.2.1).bind fun e13=>(jU (bM u12.2.2 u12.2.1 u12.1).length 0 (ac (u12.2.1+1))).bind fun s14=>(jV (bM u12.2.2 u12.2.1 u12.1) (0+Int.toNat (0)) (Int.toNat (ac (u12.2.1+1)) - Int.toNat (0))).bind fun p15=>some p15))
def DX (s_1:ae)(ed:ae):Option (List ae):=
 (NT s_1 ed 0 (-1)).bind fun r3=>some r3
def l3 (s_1:List ae)(v_2:ae)(self:Int→Option (Int⊕Unit))(x3:Int):Option (Int⊕Unit):=
 bif (decide (x3<(len s_1))) then ((aG s_1 x3).bind fun e4=>bif (v_2==e4) then (some (.inl x3)) else (self (ac (x3+1)))) else (some (.inr ()))
def rQ (s_1:List ae)(v_2:ae): Int→Option (Int⊕Unit):=aL (l3 s_1 v_2)
theorem AV (s_1:List ae)(v_2:ae): ∀a,Fin1 fun f=>l3 s_1 v_2 f a:=by
 unfold l3
 repeat first|intro _|exact aU|exact bu|apply bx|apply bd|apply be|apply bm|apply bz
theorem Gz (s_1:List ae)(v_2:ae)(x:Int):rQ s_1 v_2 x=l3 s_1 v_2 (rQ s_1 v_2) x:=bB (AV s_1 v_2) x
def Df (s_1:List ae)(v_2:ae):Option Int:=
 bf (ρ:=Int) (rQ s_1 v_2 0) fun u5:Unit=>some (-1)
def se (s_1:List ae)(v_2:ae):Option Bool:=
 (Df s_1 v_2).bind fun r3=>some (decide (r3≥0))
def qb (s_1:ae)(self:Int→Option (Bool⊕Unit))(x4:Int):Option (Bool⊕Unit):=
 bif (decide (x4<(len s_1))) then ((aG s_1 x4).bind fun c5=>bV (bif (decide ((c5.toNat:Int)<97)) then (bV (bif (decide ((c5.toNat:Int)<48)) then true else (decide ((c5.toNat:Int)>57))) fun u7:Bool=>u7) else (bV (bif (decide ((c5.toNat:Int)>122)) then (bV (bif (decide ((c5.toNat:Int)<48)) then true else (decide ((c5.toNat:Int)>57))) fun u9:Bool=>u9) else false) fun u8:Bool=>u8)) fun u6:Bool=>bif u6 then (some (.inl false)) else (self (ac (x4+1)))) else (some (.inr ()))
def yF (s_1:ae): Int→Option (Bool⊕Unit):=aL (qb s_1)
theorem Ia (s_1:ae): ∀a,Fin1 fun f=>qb s_1 f a:=by
 unfold qb
 repeat first|intro _|exact aU|exact bu|apply bx|apply bd|apply be|apply bm|apply bz
theorem W5 (s_1:ae)(x:Int):yF s_1 x=qb s_1 (yF s_1) x:=bB (Ia s_1) x
def xh (s_1:ae):Option Bool:=
 (jp (len s_1) 1 8).bind fun r2=>bf (ρ:=Bool) (bif (!r2) then (some (.inr true)) else ((aG s_1 0).bind fun c13=>ct (ρ:=Bool) (bif (decide ((c13.toNat:Int)<97)) then (some (.inr true)) else ((aG s_1 0).bind fun c15=>some (.inr (decide ((c15.toNat:Int)>122))))) fun u14:Bool=>some (.inr u14))) fun u3:Bool=>bif u3 then (some false) else (bf (ρ:=Bool) (yF s_1 0) fun u10:Unit=>(DX ([116,114,117,101,32,102,114,111,109,32,110,111,116,32,97,110,100,32,111,114,32,98,111,116,104,32,101,105,116,104,101,114,32,105,116,32,105,110]:ae) ([32]:ae)).bind fun r11=>(se r11 s_1).bind fun r12=>some (!r12))
def nL (ay:List ae)(self:Int→Option (Bool⊕Unit))(x2:Int):Option (Bool⊕Unit):=
 bif (decide (x2<(len ay))) then ((aG ay x2).bind fun e3=>(xh e3).bind fun r4=>ct (ρ:=Bool) (bif (!r4) then (some (.inr true)) else ((lF ay 0 x2).bind fun s6=>(se s6 e3).bind fun r7=>some (.inr r7))) fun u5:Bool=>bif u5 then (some (.inl false)) else (self (ac (x2+1)))) else (some (.inr ()))
def yG (ay:List ae): Int→Option (Bool⊕Unit):=aL (nL ay)
theorem Ii (ay:List ae): ∀a,Fin1 fun f=>nL ay f a:=by
 unfold nL
 repeat first|intro _|exact aU|exact bu|apply bx|apply bd|apply be|apply bm|apply bz
theorem KO (ay:List ae)(x:Int):yG ay x=nL ay (yG ay) x:=bB (Ii ay) x
def NV (ay:List ae):Option Bool:=
 bf (ρ:=Bool) (yG ay 0) fun u8:Unit=>(jp (len ay) 2 4).bind fun r9=>some r9
def W8 (x_1:Clause)(a_2:ae):Option Bool:=
 some (x_1.Id==a_2)
def ot (s_1:List Clause)(f_2:ae)(self:Int→Option (Int⊕Unit))(x3:Int):Option (Int⊕Unit):=
 bif (decide (x3<(len s_1))) then ((aG s_1 x3).bind fun e4=>(W8 e4 f_2).bind fun r5=>bif r5 then (some (.inl x3)) else (self (ac (x3+1)))) else (some (.inr ()))
def uL (s_1:List Clause)(f_2:ae): Int→Option (Int⊕Unit):=aL (ot s_1 f_2)
theorem AN (s_1:List Clause)(f_2:ae): ∀a,Fin1 fun f=>ot s_1 f_2 f a:=by
 unfold ot
 repeat first|intro _|exact aU|exact bu|apply bx|apply bd|apply be|apply bm|apply bz
theorem RS (s_1:List Clause)(f_2:ae)(x:Int):uL s_1 f_2 x=ot s_1 f_2 (uL s_1 f_2) x:=bB (AN s_1 f_2) x
def JC (s_1:List Clause)(f_2:ae):Option Int:=
 bf (ρ:=Int) (uL s_1 f_2 0) fun u6:Unit=>some (-1)
def Ij (c_1:Contract)(fD:ae):Option Int:=
 (JC c_1.Clauses fD).bind fun r3=>some r3
def pM (ip:Int):Option Bool:=
 (jp ip 0 36524).bind fun r2=>some r2
def mj (bp:(Condition×Int)→Option Int)(c_1:Condition)(cV:Int)(self:(Int×Int)→Option (Int⊕Int))(x5:Int×Int):Option (Int⊕Int):=
 bif (decide (x5.2<(len c_1.Parts))) then ((aG c_1.Parts x5.2).bind fun e6=>(bp (e6,x5.1)).bind fun r7=>bif (decide (r7<0)) then (some (.inl (-1))) else (self (r7,(ac (x5.2+1))))) else (some (.inr x5.1))
def nm (bp:(Condition×Int)→Option Int)(c_1:Condition)(cV:Int): (Int×Int)→Option (Int⊕Int):=aL (mj bp c_1 cV)
theorem Im (bp:(Condition×Int)→Option Int)(c_1:Condition)(cV:Int): ∀a,Fin1 fun f=>mj bp c_1 cV f a:=by
 unfold mj
 repeat first|intro _|exact aU|exact bu|apply bx|apply bd|apply be|apply bm|apply bz
theorem KP (bp:(Condition×Int)→Option Int)(c_1:Condition)(cV:Int)(x:Int×Int):nm bp c_1 cV x=mj bp c_1 cV (nm bp c_1 cV) x:=bB (Im bp c_1 cV) x
def zL (bp:(Condition×Int)→Option Int)(c_1:Condition)(cV:Int):Option Int:=
 bf (ρ:=Int) (bif (decide ((ac (cV+1))>15)) then (some (.inr true)) else ((jp c_1.Op 1 6).bind fun r20=>ct (ρ:=Int) (bif (!r20) then (some (.inr true)) else ((aG [(-1),0,0,0,1,2,2] c_1.Op).bind fun e22=>some (.inr ((len c_1.Parts) != e22)))) fun u21:Bool=>some (.inr u21))) fun u3:Bool=>bif u3 then (some (-1)) else (bf (ρ:=Int) (bif (!((c_1.Op==2)==(!(c_1.Name==([]:ae))))) then (some (.inr true)) else (ct (ρ:=Int) (bif (c_1.Op==2) then ((xh c_1.Name).bind fun r10=>ct (ρ:=Int) (bif (!r10) then (some (.inr true)) else (ct (ρ:=Int) (bif (c_1.Op != 3) then (ct (ρ:=Int) (bif (c_1.Day != 0) then (some (.inr true)) else ((pM c_1.Day).bind fun r14=>some (.inr (!r14)))) fun u13:Bool=>some (.inr u13)) else ((pM c_1.Day).bind fun r15=>some (.inr (!r15)))) fun u12:Bool=>some (.inr u12))) fun u11:Bool=>some (.inr u11)) else (ct (ρ:=Int) (bif (c_1.Op != 3) then (ct (ρ:=Int) (bif (c_1.Day != 0) then (some (.inr true)) else ((pM c_1.Day).bind fun r18=>some (.inr (!r18)))) fun u17:Bool=>some (.inr u17)) else ((pM c_1.Day).bind fun r19=>some (.inr (!r19)))) fun u16:Bool=>some (.inr u16))) fun u9:Bool=>some (.inr u9))) fun u4:Bool=>bif u4 then (some (-1)) else (bf (ρ:=Int) (nm bp c_1 cV ((ac (cV+1)),0)) fun u8:Int=>some u8))
def nz (bp:(Condition×Int)→Option Int)(x:Condition×Int):Option Int:=zL bp x.1 x.2
def W9 (c_1:Condition)(cV:Int):Option Int:=aL nz (c_1,cV)
theorem acG:∀x,Fin1 fun bp=>nz bp x:=by
 unfold nz zL
 repeat first|intro _|exact aU|exact bu|exact js|exact ly|exact iM|exact jJ|exact ja|exact jb|apply bx|apply bd|apply be|apply bm|apply bz|apply qx|unfold nm|unfold mj
theorem afZ (c_1:Condition)(cV:Int):W9 c_1 cV=zL (aL nz) c_1 cV:=bB acG (c_1,cV)
def Nh (c_1:Condition):Option Bool:=
 (W9 c_1 0).bind fun r2=>some (decide (r2>0))
def NZ (c_1:Contract)(i_2:Int):Option Bool:=
 (aG c_1.Clauses i_2).bind fun e3=>(xh e3.Id).bind fun r4=>bf (ρ:=Bool) (bif (!r4) then (some (.inr true)) else ((Ij c_1 e3.Id).bind fun r23=>ct (ρ:=Bool) (bif (r23 != i_2) then (some (.inr true)) else ((xh e3.Action).bind fun r25=>ct (ρ:=Bool) (bif (!r25) then (some (.inr true)) else ((jp e3.Kind 1 4).bind fun r27=>some (.inr (!r27)))) fun u26:Bool=>some (.inr u26))) fun u24:Bool=>some (.inr u24))) fun u5:Bool=>bif u5 then (some false) else ((jp e3.Party 0 (ac ((len c_1.Parties) - 1))).bind fun r6=>bf (ρ:=Bool) (bif (!r6) then (some (.inr true)) else ((jp e3.Other 0 (ac ((len c_1.Parties) - 1))).bind fun r19=>ct (ρ:=Bool) (bif (!r19) then (some (.inr true)) else (ct (ρ:=Bool) (bif (e3.Party==e3.Other) then (some (.inr true)) else ((Nh e3.When).bind fun r22=>some (.inr (!r22)))) fun u21:Bool=>some (.inr u21))) fun u20:Bool=>some (.inr u20))) fun u7:Bool=>bif u7 then (some false) else ((jp e3.Amount 0 1000000).bind fun r8=>bf (ρ:=Bool) (bif (!r8) then (some (.inr true)) else ((jp e3.Within 0 400).bind fun r15=>bV (bif (!r15) then true else (bV (bif (e3.Kind != 1) then (bV (bif (e3.Amount != 0) then true else (e3.Within != 0)) fun u18:Bool=>u18) else false) fun u17:Bool=>u17)) fun u16:Bool=>some (.inr u16))) fun u9:Bool=>bif u9 then (some false) else (bif (e3.Repair==([]:ae)) then (some true) else ((Ij c_1 e3.Repair).bind fun r10=>bf (ρ:=Bool) (bif (e3.Kind != 3) then (ct (ρ:=Bool) (bif (decide (r10≥0)) then (ct (ρ:=Bool) (bif (r10 != i_2) then ((aG c_1.Clauses r10).bind fun e14=>some (.inr (e14.Kind==1))) else (some (.inr false))) fun u13:Bool=>some (.inr u13)) else (some (.inr false))) fun u12:Bool=>some (.inr u12)) else (some (.inr false))) fun u11:Bool=>some u11))))
def mi (cS:(Condition×(List ae))→Option (List ae))(c_3:Condition)(d5:List ae)(self:(Int×(List ae))→Option ((List ae)⊕(List ae)))(x4:Int×(List ae)):Option ((List ae)⊕(List ae)):=
 bif (decide (x4.1<(len c_3.Parts))) then ((aG c_3.Parts x4.1).bind fun e5=>(cS (e5,x4.2)).bind fun r6=>self ((ac (x4.1+1)),r6)) else (some (.inr x4.2))
def pi (cS:(Condition×(List ae))→Option (List ae))(c_3:Condition)(d5:List ae): (Int×(List ae))→Option ((List ae)⊕(List ae)):=aL (mi cS c_3 d5)
theorem Ig (cS:(Condition×(List ae))→Option (List ae))(c_3:Condition)(d5:List ae): ∀a,Fin1 fun f=>mi cS c_3 d5 f a:=by
 unfold mi
 repeat first|intro _|exact aU|exact bu|apply bx|apply bd|apply be|apply bm|apply bz
theorem KN (cS:(Condition×(List ae))→Option (List ae))(c_3:Condition)(d5:List ae)(x:Int×(List ae)):pi cS c_3 d5 x=mi cS c_3 d5 (pi cS c_3 d5) x:=bB (Ig cS c_3 d5) x
def zK (cS:(Condition×(List ae))→Option (List ae))(c_3:Condition)(d5:List ae):Option (List ae):=
 bf (ρ:=(List ae)) (bif (c_3.Op==2) then ((jh 16 d5 [c_3.Name]).bind fun a8=>some (.inr a8)) else (some (.inr d5))) fun u3:(List ae)=>bf (ρ:=(List ae)) (pi cS c_3 d5 (0,u3)) fun u7:(List ae)=>some u7
def ph (cS:(Condition×(List ae))→Option (List ae))(x:Condition×(List ae)):Option (List ae):=zK cS x.1 x.2
def W6 (c_3:Condition)(d5:List ae):Option (List ae):=aL ph (c_3,d5)
theorem acB:∀x,Fin1 fun cS=>ph cS x:=by
 unfold ph zK
 repeat first|intro _|exact aU|exact bu|exact js|exact ly|exact iM|exact jJ|exact ja|exact jb|apply bx|apply bd|apply be|apply bm|apply bz|apply qx|unfold pi|unfold mi
theorem afY (c_3:Condition)(d5:List ae):W6 c_3 d5=zK (aL ph) c_3 d5:=bB acB (c_3,d5)
def lZ (s_2:List ae)(x2:Int)(self:(Int×Int×(List ae))→Option ((List ae)⊕(Int×(List ae))))(x6:Int×Int×(List ae)):Option ((List ae)⊕(Int×(List ae))):=
 bif (decide (x6.2.1<(((Int.toNat (len s_2) - Int.toNat x2):Nat):Int))) then ((wI x6.2.2 (0+Int.toNat x2) (Int.toNat (len s_2) - Int.toNat x2) x6.2.1).bind fun e7=>(wI x6.2.2 (0+Int.toNat x2) (Int.toNat (len s_2) - Int.toNat x2) (ac (x6.2.1 - 1))).bind fun e8=>ct (ρ:=(List ae)) (bif (!(e7==e8)) then ((wI x6.2.2 (0+Int.toNat x2) (Int.toNat (len s_2) - Int.toNat x2) x6.2.1).bind fun e10=>(aG x6.2.2 x6.1).bind fun e11=>some (.inr ((ac (x6.1+1)),(bM x6.2.2 x6.1 e10)))) else (some (.inr (x6.1,x6.2.2)))) fun u9:Int×(List ae)=>self (u9.1,(ac (x6.2.1+1)),u9.2)) else (some (.inr (x6.1,x6.2.2)))
def lm (s_2:List ae)(x2:Int):(Int×Int×(List ae))→Option ((List ae)⊕(Int×(List ae))):=aL (lZ s_2 x2)
theorem AM (s_2:List ae)(x2:Int):∀a,Fin1 fun f=>lZ s_2 x2 f a:=by
 unfold lZ
 repeat first|intro _|exact aU|exact bu|apply bx|apply bd|apply be|apply bm|apply bz
theorem F7 (s_2:List ae)(x2:Int)(x:Int×Int×(List ae)):lm s_2 x2 x=lZ s_2 x2 (lm s_2 x2) x:=bB (AM s_2 x2) x
def lY (s_2:List ae)(self:Int→Option ((List ae)⊕(List ae)))(x2:Int):Option ((List ae)⊕(List ae)):=
 bif (decide (x2<(len s_2))) then ((aG s_2 x2).bind fun e3=>(aG s_2 (ac (x2 - 1))).bind fun e4=>bif (e3==e4) then ((jU s_2.length x2 (len s_2)).bind fun s5=>ct (ρ:=(List ae)) (lm s_2 x2 (x2,1,s_2)) fun u15:Int×(List ae)=>(jU u15.2.length u15.1 (len u15.2)).bind fun s16=>(yS u15.2 (0+Int.toNat u15.1) (Int.toNat (len u15.2) - Int.toNat u15.1) []).bind fun k17=>(jU k17.length 0 u15.1).bind fun s18=>(jV k17 (0+Int.toNat (0)) (Int.toNat u15.1 - Int.toNat (0))).bind fun p19=>some (.inl p19)) else (self (ac (x2+1)))) else (some (.inr s_2))
def rO (s_2:List ae): Int→Option ((List ae)⊕(List ae)):=aL (lY s_2)
theorem AL (s_2:List ae): ∀a,Fin1 fun f=>lY s_2 f a:=by
 unfold lY
 repeat first|intro _|exact aU|exact bu|apply bx|apply bd|apply be|apply bm|apply bz
theorem F6 (s_2:List ae)(x:Int):rO s_2 x=lY s_2 (rO s_2) x:=bB (AL s_2) x
def C2 (s_2:List ae):Option (List ae):=
 bif (decide ((len s_2)<2)) then (some s_2) else (bf (ρ:=(List ae)) (rO s_2 1) fun u20:(List ae)=>some u20)
def B7 (ki:List ae):Option (List ae):=
 (vR ki).bind fun r2=>bif Nat.beq r2.length ki.length then ((C2 r2).bind fun r4=>some r4) else none
def nN (c_1:Contract)(self:(Int×(List ae))→Option ((List ae)⊕(List ae)))(x2:Int×(List ae)):Option ((List ae)⊕(List ae)):=
 bif (decide (x2.1<(len c_1.Clauses))) then ((aG c_1.Clauses x2.1).bind fun e3=>(jh 16 x2.2 [e3.Action]).bind fun a4=>(W6 e3.When a4).bind fun r5=>self ((ac (x2.1+1)),r5)) else (some (.inr x2.2))
def qM (c_1:Contract): (Int×(List ae))→Option ((List ae)⊕(List ae)):=aL (nN c_1)
theorem Iq (c_1:Contract): ∀a,Fin1 fun f=>nN c_1 f a:=by
 unfold nN
 repeat first|intro _|exact aU|exact bu|apply bx|apply bd|apply be|apply bm|apply bz
theorem KR (c_1:Contract)(x:Int×(List ae)):qM c_1 x=nN c_1 (qM c_1) x:=bB (Iq c_1) x
def yH (c_1:Contract):Option (List ae):=
 bf (ρ:=(List ae)) (qM c_1 (0,[])) fun u6:(List ae)=>(B7 u6).bind fun r7=>some r7
def nK (c_1:Contract)(self:Int→Option (Bool⊕Unit))(x4:Int):Option (Bool⊕Unit):=
 bif (decide (x4<(len c_1.Clauses))) then ((NZ c_1 x4).bind fun r5=>bif (!r5) then (some (.inl false)) else (self (ac (x4+1)))) else (some (.inr ()))
def pe (c_1:Contract): Int→Option (Bool⊕Unit):=aL (nK c_1)
theorem Hh (c_1:Contract): ∀a,Fin1 fun f=>nK c_1 f a:=by
 unfold nK
 repeat first|intro _|exact aU|exact bu|apply bx|apply bd|apply be|apply bm|apply bz
theorem KG (c_1:Contract)(x:Int):pe c_1 x=nK c_1 (pe c_1) x:=bB (Hh c_1) x
def NA (c_1:Contract):Option Bool:=
 (NV c_1.Parties).bind fun r2=>bf (ρ:=Bool) (bif (!r2) then (some (.inr true)) else ((jp (len c_1.Clauses) 1 12).bind fun r8=>some (.inr (!r8)))) fun u3:Bool=>bif u3 then (some false) else (bf (ρ:=Bool) (pe c_1 0) fun u6:Unit=>(yH c_1).bind fun r7=>some (decide ((len r7)≤16)))
def nO (cw:List ae)(self:Int→Option (Bool⊕Unit))(x2:Int):Option (Bool⊕Unit):=
 bif (decide (x2<(len cw))) then ((aG cw x2).bind fun e3=>(xh e3).bind fun r4=>ct (ρ:=Bool) (bif (!r4) then (some (.inr true)) else (ct (ρ:=Bool) (bif (decide (x2>0)) then ((aG cw (ac (x2 - 1))).bind fun e7=>some (.inr (Op.bytesLess e3 e7||e3==e7))) else (some (.inr false))) fun u6:Bool=>some (.inr u6))) fun u5:Bool=>bif u5 then (some (.inl false)) else (self (ac (x2+1)))) else (some (.inr ()))
def pj (cw:List ae): Int→Option (Bool⊕Unit):=aL (nO cw)
theorem Iv (cw:List ae): ∀a,Fin1 fun f=>nO cw f a:=by
 unfold nO
 repeat first|intro _|exact aU|exact bu|apply bx|apply bd|apply be|apply bm|apply bz
theorem KS (cw:List ae)(x:Int):pj cw x=nO cw (pj cw) x:=bB (Iv cw) x
def N5 (cw:List ae):Option Bool:=
 bf (ρ:=Bool) (pj cw 0) fun u8:Unit=>some (decide ((len cw)≤16))
def B3 (f_1:ae)(a_2:List ae):Option Bool:=
 (se a_2 f_1).bind fun r3=>some (!r3)
def oz (s_1:List ae)(f_2:(List ae))(self:Int→Option (Int⊕Unit))(x3:Int):Option (Int⊕Unit):=
 bif (decide (x3<(len s_1))) then ((aG s_1 x3).bind fun e4=>(B3 e4 f_2).bind fun r5=>bif r5 then (some (.inl x3)) else (self (ac (x3+1)))) else (some (.inr ()))
def uR (s_1:List ae)(f_2:(List ae)): Int→Option (Int⊕Unit):=aL (oz s_1 f_2)
theorem AU (s_1:List ae)(f_2:(List ae)): ∀a,Fin1 fun f=>oz s_1 f_2 f a:=by
 unfold oz
 repeat first|intro _|exact aU|exact bu|apply bx|apply bd|apply be|apply bm|apply bz
theorem RY (s_1:List ae)(f_2:(List ae))(x:Int):uR s_1 f_2 x=oz s_1 f_2 (uR s_1 f_2) x:=bB (AU s_1 f_2) x
def JH (s_1:List ae)(f_2:(List ae)):Option Int:=
 bf (ρ:=Int) (uR s_1 f_2 0) fun u6:Unit=>some (-1)
def JB (s_1:List ae)(f_2:(List ae)):Option Bool:=
 (JH s_1 f_2).bind fun r3=>some (decide (r3≥0))
def sZ (ay:List Int)(self:(Int×Int)→Option (Int⊕Int))(x2:Int×Int):Option (Int⊕Int):=
 bif (decide (x2.2<(len ay))) then ((aG ay x2.2).bind fun e3=>self ((ac (x2.1+e3)),(ac (x2.2+1)))) else (some (.inr x2.1))
def Js (ay:List Int): (Int×Int)→Option (Int⊕Int):=aL (sZ ay)
theorem Pq (ay:List Int): ∀a,Fin1 fun f=>sZ ay f a:=by
 unfold sZ
 repeat first|intro _|exact aU|exact bu|apply bx|apply bd|apply be|apply bm|apply bz
def xw (ay:List Int):Option Int:=
 bf (ρ:=Int) (Js ay (0,0)) fun u4:Int=>some u4
def N3 (x_1:Clause)(a_2:Contract)(a_3:Int):Option Bool:=
 (aG a_2.Clauses a_3).bind fun e4=>some (x_1.Repair==e4.Id)
def ou (s_1:List Clause)(f_2:Contract×Int)(self:Int→Option (Int⊕Unit))(x3:Int):Option (Int⊕Unit):=
 bif (decide (x3<(len s_1))) then ((aG s_1 x3).bind fun e4=>(N3 e4 f_2.1 f_2.2).bind fun r5=>bif r5 then (some (.inl x3)) else (self (ac (x3+1)))) else (some (.inr ()))
def uM (s_1:List Clause)(f_2:Contract×Int): Int→Option (Int⊕Unit):=aL (ou s_1 f_2)
theorem AO (s_1:List Clause)(f_2:Contract×Int): ∀a,Fin1 fun f=>ou s_1 f_2 f a:=by
 unfold ou
 repeat first|intro _|exact aU|exact bu|apply bx|apply bd|apply be|apply bm|apply bz
theorem RT (s_1:List Clause)(f_2:Contract×Int)(x:Int):uM s_1 f_2 x=ou s_1 f_2 (uM s_1 f_2) x:=bB (AO s_1 f_2) x
def JD (s_1:List Clause)(f_2:Contract×Int):Option Int:=
 bf (ρ:=Int) (uM s_1 f_2 0) fun u6:Unit=>some (-1)
def Jw (s_1:List Clause)(f_2:Contract×Int):Option Bool:=
 (JD s_1 (f_2.1,f_2.2)).bind fun r3=>some (decide (r3≥0))
def N2 (c_1:Contract)(i_2:Int):Option Bool:=
 (Jw c_1.Clauses (c_1,i_2)).bind fun r3=>some r3
def Q2 (kr:Duty)(a_2:Duty):Option Bool:=
 some (kr.Clause==a_2.Clause)
def ov (s_1:List Duty)(f_2:Duty)(self:Int→Option (Int⊕Unit))(x3:Int):Option (Int⊕Unit):=
 bif (decide (x3<(len s_1))) then ((aG s_1 x3).bind fun e4=>(Q2 e4 f_2).bind fun r5=>bif r5 then (some (.inl x3)) else (self (ac (x3+1)))) else (some (.inr ()))
def uN (s_1:List Duty)(f_2:Duty): Int→Option (Int⊕Unit):=aL (ov s_1 f_2)
theorem AP (s_1:List Duty)(f_2:Duty): ∀a,Fin1 fun f=>ov s_1 f_2 f a:=by
 unfold ov
 repeat first|intro _|exact aU|exact bu|apply bx|apply bd|apply be|apply bm|apply bz
theorem RU (s_1:List Duty)(f_2:Duty)(x:Int):uN s_1 f_2 x=ov s_1 f_2 (uN s_1 f_2) x:=bB (AP s_1 f_2) x
def JE (s_1:List Duty)(f_2:Duty):Option Int:=
 bf (ρ:=Int) (uN s_1 f_2 0) fun u6:Unit=>some (-1)
def Jy (s_1:List Duty)(f_2:Duty):Option Bool:=
 (JE s_1 f_2).bind fun r3=>some (decide (r3≥0))
def N4 (c_1:Contract)(s_2:State)(i_3:Int):Option Bool:=
 (aG s_2.Duties i_3).bind fun e4=>(jp e4.Clause 0 (ac ((len c_1.Clauses) - 1))).bind fun r5=>bf (ρ:=Bool) (bif (!r5) then (some (.inr true)) else ((aG c_1.Clauses e4.Clause).bind fun e18=>ct (ρ:=Bool) (bif (e18.Kind != 1) then (some (.inr true)) else ((jp e4.Since 0 s_2.Day).bind fun r20=>some (.inr (!r20)))) fun u19:Bool=>some (.inr u19))) fun u6:Bool=>bif u6 then (some false) else ((aG c_1.Clauses e4.Clause).bind fun e7=>bf (ρ:=Bool) (bif (e4.Due != (ac (e4.Since+e7.Within))) then (some (.inr true)) else ((pM e4.Due).bind fun r14=>ct (ρ:=Bool) (bif (!r14) then (some (.inr true)) else (ct (ρ:=Bool) (bif (decide (i_3>0)) then ((aG s_2.Duties (ac (i_3 - 1))).bind fun e17=>some (.inr (decide (e4.Since<e17.Since)))) else (some (.inr false))) fun u16:Bool=>some (.inr u16))) fun u15:Bool=>some (.inr u15))) fun u8:Bool=>bif u8 then (some false) else ((N2 c_1 e4.Clause).bind fun r9=>bf (ρ:=Bool) (bif (!r9) then ((lF s_2.Duties 0 i_3).bind fun s12=>(Jy s12 e4).bind fun r13=>some (.inr r13)) else (some (.inr false))) fun u10:Bool=>bif u10 then (some false) else (bif (e4.Status==1) then (bV (bif (decide (e4.Due≥s_2.Day)) then (!s_2.Over) else false) fun u11:Bool=>some u11) else (bif (e4.Status==2) then (some true) else (bif (e4.Status==3) then (some (decide (e4.Due<s_2.Day))) else (bif (e4.Status==4) then (some s_2.Over) else (some false)))))))
def Q1 (x_1:Int):Option Bool:=
 (jp x_1 (-1000000000) 1000000000).bind fun r2=>some r2
def B5 (b_1:Int):Option Bool:=
 (Q1 b_1).bind fun r2=>some (!r2)
def ox (s_1:List Int)(f_2:Unit)(self:Int→Option (Int⊕Unit))(x3:Int):Option (Int⊕Unit):=
 bif (decide (x3<(len s_1))) then ((aG s_1 x3).bind fun e4=>(B5 e4).bind fun r5=>bif r5 then (some (.inl x3)) else (self (ac (x3+1)))) else (some (.inr ()))
def uQ (s_1:List Int)(f_2:Unit): Int→Option (Int⊕Unit):=aL (ox s_1 f_2)
theorem AR (s_1:List Int)(f_2:Unit): ∀a,Fin1 fun f=>ox s_1 f_2 f a:=by
 unfold ox
 repeat first|intro _|exact aU|exact bu|apply bx|apply bd|apply be|apply bm|apply bz
theorem RX (s_1:List Int)(f_2:Unit)(x:Int):uQ s_1 f_2 x=ox s_1 f_2 (uQ s_1 f_2) x:=bB (AR s_1 f_2) x
def JG (s_1:List Int)(f_2:Unit):Option Int:=
 bf (ρ:=Int) (uQ s_1 f_2 0) fun u6:Unit=>some (-1)
def JA (s_1:List Int)(f_2:Unit):Option Bool:=
 (JG s_1 ()).bind fun r3=>some (decide (r3≥0))
def nP (c_1:Contract)(s_2:State)(self:Int→Option (Bool⊕Unit))(x7:Int):Option (Bool⊕Unit):=
 bif (decide (x7<(len s_2.Duties))) then ((N4 c_1 s_2 x7).bind fun r8=>bif (!r8) then (some (.inl false)) else (self (ac (x7+1)))) else (some (.inr ()))
def qN (c_1:Contract)(s_2:State): Int→Option (Bool⊕Unit):=aL (nP c_1 s_2)
theorem Iw (c_1:Contract)(s_2:State): ∀a,Fin1 fun f=>nP c_1 s_2 f a:=by
 unfold nP
 repeat first|intro _|exact aU|exact bu|apply bx|apply bd|apply be|apply bm|apply bz
theorem KT (c_1:Contract)(s_2:State)(x:Int):qN c_1 s_2 x=nP c_1 s_2 (qN c_1 s_2) x:=bB (Iw c_1 s_2) x
def N6 (c_1:Contract)(s_2:State):Option Bool:=
 (yH c_1).bind fun r3=>(pM s_2.Day).bind fun r4=>bf (ρ:=Bool) (bif (!r4) then (some (.inr true)) else ((N5 s_2.Facts).bind fun r13=>ct (ρ:=Bool) (bif (!r13) then (some (.inr true)) else ((JB s_2.Facts r3).bind fun r15=>some (.inr r15))) fun u14:Bool=>some (.inr u14))) fun u5:Bool=>bif u5 then (some false) else (bf (ρ:=Bool) (bif (decide ((len s_2.Duties)>24)) then (some (.inr true)) else (ct (ρ:=Bool) (bif ((len s_2.Balances) != (len c_1.Parties)) then (some (.inr true)) else ((xw s_2.Balances).bind fun r12=>some (.inr (r12 != 0)))) fun u11:Bool=>some (.inr u11))) fun u6:Bool=>bif u6 then (some false) else (bf (ρ:=Bool) (qN c_1 s_2 0) fun u9:Unit=>(JA s_2.Balances ()).bind fun r10=>some (!r10)))
def KM (c_1:Contract)(s_2:State):Option Bool:=
 (NA c_1).bind fun r3=>bf (ρ:=Bool) (bif r3 then ((N6 c_1 s_2).bind fun r5=>some (.inr r5)) else (some (.inr false))) fun u4:Bool=>some u4
def B1 (p_1:Int)(a_2:Contract):Option Bool:=
 (jp p_1 0 (ac ((len a_2.Parties) - 1))).bind fun r3=>some (!r3)
def ow (s_1:List Int)(f_2:Contract)(self:Int→Option (Int⊕Unit))(x3:Int):Option (Int⊕Unit):=
 bif (decide (x3<(len s_1))) then ((aG s_1 x3).bind fun e4=>(B1 e4 f_2).bind fun r5=>bif r5 then (some (.inl x3)) else (self (ac (x3+1)))) else (some (.inr ()))
def uO (s_1:List Int)(f_2:Contract): Int→Option (Int⊕Unit):=aL (ow s_1 f_2)
theorem AQ (s_1:List Int)(f_2:Contract): ∀a,Fin1 fun f=>ow s_1 f_2 f a:=by
 unfold ow
 repeat first|intro _|exact aU|exact bu|apply bx|apply bd|apply be|apply bm|apply bz
theorem RV (s_1:List Int)(f_2:Contract)(x:Int):uO s_1 f_2 x=ow s_1 f_2 (uO s_1 f_2) x:=bB (AQ s_1 f_2) x
def JF (s_1:List Int)(f_2:Contract):Option Int:=
 bf (ρ:=Int) (uO s_1 f_2 0) fun u6:Unit=>some (-1)
def Jz (s_1:List Int)(f_2:Contract):Option Bool:=
 (JF s_1 f_2).bind fun r3=>some (decide (r3≥0))
def BZ (c_1:Contract)(s_2:State)(gC:List Int):Option Bool:=
 (KM c_1 s_2).bind fun r4=>bf (ρ:=Bool) (bif r4 then ((Jz gC c_1).bind fun r6=>some (.inr (!r6))) else (some (.inr false))) fun u5:Bool=>some u5
def Q0 (d_1:Duty)(x_2:Clause)(a_3:Int):Option Bool:=
 some (x_2.Party==a_3)
def MK (x_1:Int):Option Bool:=
 some (x_1 != x_1)
def MJ (x_1:Int)(y_2:Int):Option Int:=
 (MK x_1).bind fun r3=>(MK y_2).bind fun r4=>bif r3 then (bif r4 then (some 0) else (some (-1))) else (bif r4 then (some 1) else (bif (decide (x_1<y_2)) then (some (-1)) else (bif (decide (x_1>y_2)) then (some 1) else (some 0))))
def Bx (i_1:Int)(k_2:Int)(a_3:State):Option Int:=
 (aG a_3.Duties i_1).bind fun e4=>(aG a_3.Duties k_2).bind fun e5=>(MJ e4.Due e5.Due).bind fun r6=>some r6
def kx (cD:List Int)(eS:Int)(eX:Int)(dh:State)(x5:Int×Int×Int×(List Int))(self:(Int×(List Int))→Option ((List Int)⊕(List Int)))(x6:Int×(List Int)):Option ((List Int)⊕(List Int)):=
 ct (ρ:=(List Int)) (bif (decide (x6.1>x5.1)) then ((aG x6.2 x6.1).bind fun e18=>(aG x6.2 (ac (x6.1 - 1))).bind fun e19=>(Bx e18 e19 dh).bind fun r20=>some (.inr (decide (r20<0)))) else (some (.inr false))) fun u7:Bool=>bif u7 then ((aG x6.2 (ac (x6.1 - 1))).bind fun e8=>(aG x6.2 x6.1).bind fun e9=>(aG x6.2 x6.1).bind fun e10=>(aG (bM x6.2 x6.1 e8) (ac (x6.1 - 1))).bind fun e13=>bV (bM (bM x6.2 x6.1 e8) (ac (x6.1 - 1)) e9) fun rw14:List Int=>self ((ac (x6.1 - 1)),rw14)) else (some (.inr x6.2))
def ln (cD:List Int)(eS:Int)(eX:Int)(dh:State)(x5:Int×Int×Int×(List Int)):(Int×(List Int))→Option ((List Int)⊕(List Int)):=aL (kx cD eS eX dh x5)
theorem AX (cD:List Int)(eS:Int)(eX:Int)(dh:State)(x5:Int×Int×Int×(List Int)):∀a,Fin1 fun f=>kx cD eS eX dh x5 f a:=by
 unfold kx
 repeat first|intro _|exact aU|exact bu|apply bx|apply bd|apply be|apply bm|apply bz
theorem v7 (cD:List Int)(eS:Int)(eX:Int)(dh:State)(x5:Int×Int×Int×(List Int))(x:Int×(List Int)):ln cD eS eX dh x5 x=kx cD eS eX dh x5 (ln cD eS eX dh x5) x:=bB (AX cD eS eX dh x5) x
def kw (cD:List Int)(eS:Int)(eX:Int)(dh:State)(self:(Int×Int×Int×(List Int))→Option ((List Int)⊕(List Int)))(x5:Int×Int×Int×(List Int)):Option ((List Int)⊕(List Int)):=
 bif (decide (x5.2.2.1<x5.2.1)) then (ct (ρ:=(List Int)) (ln cD eS eX dh x5 (x5.2.2.1,x5.2.2.2)) fun u21:(List Int)=>self (x5.1,x5.2.1,(ac (x5.2.2.1+1)),u21)) else (some (.inr x5.2.2.2))
def mI (cD:List Int)(eS:Int)(eX:Int)(dh:State): (Int×Int×Int×(List Int))→Option ((List Int)⊕(List Int)):=aL (kw cD eS eX dh)
theorem AW (cD:List Int)(eS:Int)(eX:Int)(dh:State): ∀a,Fin1 fun f=>kw cD eS eX dh f a:=by
 unfold kw
 repeat first|intro _|exact aU|exact bu|apply bx|apply bd|apply be|apply bm|apply bz
theorem v6 (cD:List Int)(eS:Int)(eX:Int)(dh:State)(x:Int×Int×Int×(List Int)):mI cD eS eX dh x=kw cD eS eX dh (mI cD eS eX dh) x:=bB (AW cD eS eX dh) x
def sh (cD:List Int)(eS:Int)(eX:Int)(dh:State):Option (List Int):=
 bf (ρ:=(List Int)) (mI cD eS eX dh (eS,eX,(ac (eS+1)),cD)) fun u22:(List Int)=>bif Nat.beq u22.length cD.length then (some u22) else none
def l4 (ez:List Int)(fk:Int)(f8:Int)(ig:Int)(fO:State)(self:(Int×(List Int))→Option ((List Int)⊕(List Int)))(x6:Int×(List Int)):Option ((List Int)⊕(List Int)):=
 bif (decide (x6.1<ig)) then ((aG x6.2 (ac (f8+x6.1))).bind fun e7=>(aG x6.2 (ac (fk+x6.1))).bind fun e8=>(aG x6.2 (ac (fk+x6.1))).bind fun e9=>(aG (bM x6.2 (ac (fk+x6.1)) e7) (ac (f8+x6.1))).bind fun e12=>bV (bM (bM x6.2 (ac (fk+x6.1)) e7) (ac (f8+x6.1)) e8) fun rw13:List Int=>self ((ac (x6.1+1)),rw13)) else (some (.inr x6.2))
def mJ (ez:List Int)(fk:Int)(f8:Int)(ig:Int)(fO:State): (Int×(List Int))→Option ((List Int)⊕(List Int)):=aL (l4 ez fk f8 ig fO)
theorem A7 (ez:List Int)(fk:Int)(f8:Int)(ig:Int)(fO:State): ∀a,Fin1 fun f=>l4 ez fk f8 ig fO f a:=by
 unfold l4
 repeat first|intro _|exact aU|exact bu|apply bx|apply bd|apply be|apply bm|apply bz
theorem GM (ez:List Int)(fk:Int)(f8:Int)(ig:Int)(fO:State)(x:Int×(List Int)):mJ ez fk f8 ig fO x=l4 ez fk f8 ig fO (mJ ez fk f8 ig fO) x:=bB (A7 ez fk f8 ig fO) x
def wc (ez:List Int)(fk:Int)(f8:Int)(ig:Int)(fO:State):Option (List Int):=
 bf (ρ:=(List Int)) (mJ ez fk f8 ig fO (0,ez)) fun u17:(List Int)=>bif Nat.beq u17.length ez.length then (some u17) else none
def oB (eW:List Int)(a_9:Int)(fg:Int)(gX:Int)(ep:State)(self:(Int×Int×(List Int))→Option ((List Int)⊕(Int×Int×(List Int))))(x6:Int×Int×(List Int)):Option ((List Int)⊕(Int×Int×(List Int))):=
 bif (x6.1 != x6.2.1) then (ct (ρ:=(List Int)) (bif (decide (x6.1>x6.2.1)) then ((wc x6.2.2 (ac (fg - x6.1)) fg x6.2.1 ep).bind fun r8=>bif Nat.beq r8.length x6.2.2.length then (some (.inr ((ac (x6.1 - x6.2.1)),x6.2.1,r8))) else none) else ((wc x6.2.2 (ac (fg - x6.1)) (ac ((ac (fg+x6.2.1)) - x6.1)) x6.1 ep).bind fun r10=>bif Nat.beq r10.length x6.2.2.length then (some (.inr (x6.1,(ac (x6.2.1 - x6.1)),r10))) else none)) fun u7:Int×Int×(List Int)=>self (u7.1,u7.2.1,u7.2.2)) else (some (.inr (fg,x6.1,x6.2.2)))
def uS (eW:List Int)(a_9:Int)(fg:Int)(gX:Int)(ep:State): (Int×Int×(List Int))→Option ((List Int)⊕(Int×Int×(List Int))):=aL (oB eW a_9 fg gX ep)
theorem AY (eW:List Int)(a_9:Int)(fg:Int)(gX:Int)(ep:State): ∀a,Fin1 fun f=>oB eW a_9 fg gX ep f a:=by
 unfold oB
 repeat first|intro _|exact aU|exact bu|apply bx|apply bd|apply be|apply bm|apply bz
theorem RZ (eW:List Int)(a_9:Int)(fg:Int)(gX:Int)(ep:State)(x:Int×Int×(List Int)):uS eW a_9 fg gX ep x=oB eW a_9 fg gX ep (uS eW a_9 fg gX ep) x:=bB (AY eW a_9 fg gX ep) x
def xZ (eW:List Int)(a_9:Int)(fg:Int)(gX:Int)(ep:State):Option (List Int):=
 bf (ρ:=(List Int)) (uS eW a_9 fg gX ep ((ac (fg - a_9)),(ac (gX - fg)),eW)) fun u12:Int×Int×(List Int)=>(wc u12.2.2 (ac (u12.1 - u12.2.1)) u12.1 u12.2.1 ep).bind fun r13=>bif Nat.beq r13.length u12.2.2.length then (bif Nat.beq r13.length eW.length then (some r13) else none) else none
def jw (aA:((List Int)×Int×Int×Int×State)→Option (List Int))(ao:List Int)(aW:Int)(aY:Int)(bh:Int)(aF:State)(self:(Int×Int)→Option ((List Int)⊕(Int×Int×(List Int))))(x6:Int×Int):Option ((List Int)⊕(Int×Int×(List Int))):=
 bif (decide (x6.1<x6.2)) then ((aG ao (IntKind.i64.wrap (ek .u64 (IntKind.u64.wrap (ac (x6.1+x6.2))) 1))).bind fun e7=>(aG ao aW).bind fun e8=>(Bx e7 e8 aF).bind fun r9=>bV (bif (decide (r9<0)) then ((ac ((IntKind.i64.wrap (ek .u64 (IntKind.u64.wrap (ac (x6.1+x6.2))) 1))+1)),x6.2) else (x6.1,(IntKind.i64.wrap (ek .u64 (IntKind.u64.wrap (ac (x6.1+x6.2))) 1)))) fun u10:Int×Int=>self (u10.1,u10.2)) else (some (.inr (aW,x6.1,ao)))
def pV (aA:((List Int)×Int×Int×Int×State)→Option (List Int))(ao:List Int)(aW:Int)(aY:Int)(bh:Int)(aF:State): (Int×Int)→Option ((List Int)⊕(Int×Int×(List Int))):=aL (jw aA ao aW aY bh aF)
theorem A8 (aA:((List Int)×Int×Int×Int×State)→Option (List Int))(ao:List Int)(aW:Int)(aY:Int)(bh:Int)(aF:State): ∀a,Fin1 fun f=>jw aA ao aW aY bh aF f a:=by
 unfold jw
 repeat first|intro _|exact aU|exact bu|apply bx|apply bd|apply be|apply bm|apply bz
theorem GN (aA:((List Int)×Int×Int×Int×State)→Option (List Int))(ao:List Int)(aW:Int)(aY:Int)(bh:Int)(aF:State)(x:Int×Int):pV aA ao aW aY bh aF x=jw aA ao aW aY bh aF (pV aA ao aW aY bh aF) x:=bB (A8 aA ao aW aY bh aF) x
def jx (aA:((List Int)×Int×Int×Int×State)→Option (List Int))(ao:List Int)(aW:Int)(aY:Int)(bh:Int)(aF:State)(u11:Int×Int×(List Int))(self:(Int×(List Int))→Option ((List Int)⊕(List Int)))(x12:Int×(List Int)):Option ((List Int)⊕(List Int)):=
 bif (decide (x12.1<(ac (u11.2.1 - 1)))) then ((aG x12.2 (ac (x12.1+1))).bind fun e13=>(aG x12.2 x12.1).bind fun e14=>(aG x12.2 x12.1).bind fun e15=>(aG (bM x12.2 x12.1 e13) (ac (x12.1+1))).bind fun e18=>bV (bM (bM x12.2 x12.1 e13) (ac (x12.1+1)) e14) fun rw19:List Int=>self ((ac (x12.1+1)),rw19)) else (some (.inr x12.2))
def jX (aA:((List Int)×Int×Int×Int×State)→Option (List Int))(ao:List Int)(aW:Int)(aY:Int)(bh:Int)(aF:State)(u11:Int×Int×(List Int)):(Int×(List Int))→Option ((List Int)⊕(List Int)):=aL (jx aA ao aW aY bh aF u11)
theorem A9 (aA:((List Int)×Int×Int×Int×State)→Option (List Int))(ao:List Int)(aW:Int)(aY:Int)(bh:Int)(aF:State)(u11:Int×Int×(List Int)):∀a,Fin1 fun f=>jx aA ao aW aY bh aF u11 f a:=by
 unfold jx
 repeat first|intro _|exact aU|exact bu|apply bx|apply bd|apply be|apply bm|apply bz
theorem GO (aA:((List Int)×Int×Int×Int×State)→Option (List Int))(ao:List Int)(aW:Int)(aY:Int)(bh:Int)(aF:State)(u11:Int×Int×(List Int))(x:Int×(List Int)):jX aA ao aW aY bh aF u11 x=jx aA ao aW aY bh aF u11 (jX aA ao aW aY bh aF u11) x:=bB (A9 aA ao aW aY bh aF u11) x
def jy (aA:((List Int)×Int×Int×Int×State)→Option (List Int))(ao:List Int)(aW:Int)(aY:Int)(bh:Int)(aF:State)(self:(Int×Int)→Option ((List Int)⊕(Int×Int×(List Int))))(x25:Int×Int):Option ((List Int)⊕(Int×Int×(List Int))):=
 bif (decide (x25.1<x25.2)) then ((aG ao aY).bind fun e26=>(aG ao (IntKind.i64.wrap (ek .u64 (IntKind.u64.wrap (ac (x25.1+x25.2))) 1))).bind fun e27=>(Bx e26 e27 aF).bind fun r28=>bV (bif (!(decide (r28<0))) then ((ac ((IntKind.i64.wrap (ek .u64 (IntKind.u64.wrap (ac (x25.1+x25.2))) 1))+1)),x25.2) else (x25.1,(IntKind.i64.wrap (ek .u64 (IntKind.u64.wrap (ac (x25.1+x25.2))) 1)))) fun u29:Int×Int=>self (u29.1,u29.2)) else (some (.inr (aY,x25.1,ao)))
def pW (aA:((List Int)×Int×Int×Int×State)→Option (List Int))(ao:List Int)(aW:Int)(aY:Int)(bh:Int)(aF:State): (Int×Int)→Option ((List Int)⊕(Int×Int×(List Int))):=aL (jy aA ao aW aY bh aF)
theorem Ba (aA:((List Int)×Int×Int×Int×State)→Option (List Int))(ao:List Int)(aW:Int)(aY:Int)(bh:Int)(aF:State): ∀a,Fin1 fun f=>jy aA ao aW aY bh aF f a:=by
 unfold jy
 repeat first|intro _|exact aU|exact bu|apply bx|apply bd|apply be|apply bm|apply bz
theorem GP (aA:((List Int)×Int×Int×Int×State)→Option (List Int))(ao:List Int)(aW:Int)(aY:Int)(bh:Int)(aF:State)(x:Int×Int):pW aA ao aW aY bh aF x=jy aA ao aW aY bh aF (pW aA ao aW aY bh aF) x:=bB (Ba aA ao aW aY bh aF) x
def jz (aA:((List Int)×Int×Int×Int×State)→Option (List Int))(ao:List Int)(aW:Int)(aY:Int)(bh:Int)(aF:State)(u30:Int×Int×(List Int))(self:(Int×(List Int))→Option ((List Int)⊕(List Int)))(x31:Int×(List Int)):Option ((List Int)⊕(List Int)):=
 bif (decide (x31.1>u30.2.1)) then ((aG x31.2 (ac (x31.1 - 1))).bind fun e32=>(aG x31.2 x31.1).bind fun e33=>(aG x31.2 x31.1).bind fun e34=>(aG (bM x31.2 x31.1 e32) (ac (x31.1 - 1))).bind fun e37=>bV (bM (bM x31.2 x31.1 e32) (ac (x31.1 - 1)) e33) fun rw38:List Int=>self ((ac (x31.1 - 1)),rw38)) else (some (.inr x31.2))
def jY (aA:((List Int)×Int×Int×Int×State)→Option (List Int))(ao:List Int)(aW:Int)(aY:Int)(bh:Int)(aF:State)(u30:Int×Int×(List Int)):(Int×(List Int))→Option ((List Int)⊕(List Int)):=aL (jz aA ao aW aY bh aF u30)
theorem Bb (aA:((List Int)×Int×Int×Int×State)→Option (List Int))(ao:List Int)(aW:Int)(aY:Int)(bh:Int)(aF:State)(u30:Int×Int×(List Int)):∀a,Fin1 fun f=>jz aA ao aW aY bh aF u30 f a:=by
 unfold jz
 repeat first|intro _|exact aU|exact bu|apply bx|apply bd|apply be|apply bm|apply bz
theorem GQ (aA:((List Int)×Int×Int×Int×State)→Option (List Int))(ao:List Int)(aW:Int)(aY:Int)(bh:Int)(aF:State)(u30:Int×Int×(List Int))(x:Int×(List Int)):jY aA ao aW aY bh aF u30 x=jz aA ao aW aY bh aF u30 (jY aA ao aW aY bh aF u30) x:=bB (Bb aA ao aW aY bh aF u30) x
def kz (aA:((List Int)×Int×Int×Int×State)→Option (List Int))(ao:List Int)(aW:Int)(aY:Int)(bh:Int)(aF:State)(self:(Int×Int)→Option ((List Int)⊕(Int×Int×Int×Int)))(x45:Int×Int):Option ((List Int)⊕(Int×Int×Int×Int)):=
 bif (decide (x45.1<x45.2)) then ((aG ao (ac ((ac ((ac ((IntKind.i64.wrap (ek .u64 (IntKind.u64.wrap (ac (aW+bh))) 1))+aY)) - 1)) - (IntKind.i64.wrap (ek .u64 (IntKind.u64.wrap (ac (x45.1+x45.2))) 1))))).bind fun e46=>(aG ao (IntKind.i64.wrap (ek .u64 (IntKind.u64.wrap (ac (x45.1+x45.2))) 1))).bind fun e47=>(Bx e46 e47 aF).bind fun r48=>bV (bif (!(decide (r48<0))) then ((ac ((IntKind.i64.wrap (ek .u64 (IntKind.u64.wrap (ac (x45.1+x45.2))) 1))+1)),x45.2) else (x45.1,(IntKind.i64.wrap (ek .u64 (IntKind.u64.wrap (ac (x45.1+x45.2))) 1)))) fun u49:Int×Int=>self (u49.1,u49.2)) else (some (.inr (bh,(IntKind.i64.wrap (ek .u64 (IntKind.u64.wrap (ac (aW+bh))) 1)),(ac ((IntKind.i64.wrap (ek .u64 (IntKind.u64.wrap (ac (aW+bh))) 1))+aY)),x45.1)))
def rR (aA:((List Int)×Int×Int×Int×State)→Option (List Int))(ao:List Int)(aW:Int)(aY:Int)(bh:Int)(aF:State): (Int×Int)→Option ((List Int)⊕(Int×Int×Int×Int)):=aL (kz aA ao aW aY bh aF)
theorem Bc (aA:((List Int)×Int×Int×Int×State)→Option (List Int))(ao:List Int)(aW:Int)(aY:Int)(bh:Int)(aF:State): ∀a,Fin1 fun f=>kz aA ao aW aY bh aF f a:=by
 unfold kz
 repeat first|intro _|exact aU|exact bu|apply bx|apply bd|apply be|apply bm|apply bz
theorem GR (aA:((List Int)×Int×Int×Int×State)→Option (List Int))(ao:List Int)(aW:Int)(aY:Int)(bh:Int)(aF:State)(x:Int×Int):rR aA ao aW aY bh aF x=kz aA ao aW aY bh aF (rR aA ao aW aY bh aF) x:=bB (Bc aA ao aW aY bh aF) x
def uX (aA:((List Int)×Int×Int×Int×State)→Option (List Int))(ao:List Int)(aW:Int)(aY:Int)(bh:Int)(aF:State):Option (List Int):=
 bif ((ac (aY - aW))==1) then (bf (ρ:=(List Int)) (pV aA ao aW aY bh aF (aY,bh)) fun u11:Int×Int×(List Int)=>bf (ρ:=(List Int)) (jX aA ao aW aY bh aF u11 (u11.1,u11.2.2)) fun u23:(List Int)=>bif Nat.beq u23.length ao.length then (some u23) else none) else (bif ((ac (bh - aY))==1) then (bf (ρ:=(List Int)) (pW aA ao aW aY bh aF (aW,aY)) fun u30:Int×Int×(List Int)=>bf (ρ:=(List Int)) (jY aA ao aW aY bh aF u30 (u30.1,u30.2.2)) fun u42:(List Int)=>bif Nat.beq u42.length ao.length then (some u42) else none) else (bV (bif (decide (aY>(IntKind.i64.wrap (ek .u64 (IntKind.u64.wrap (ac (aW+bh))) 1)))) then ((ac ((ac ((IntKind.i64.wrap (ek .u64 (IntKind.u64.wrap (ac (aW+bh))) 1))+aY)) - bh)),(IntKind.i64.wrap (ek .u64 (IntKind.u64.wrap (ac (aW+bh))) 1))) else (aW,aY)) fun u44:Int×Int=>bf (ρ:=(List Int)) (rR aA ao aW aY bh aF (u44.1,u44.2)) fun u50:Int×Int×Int×Int=>bV (bif (decide (u50.2.2.2<aY)) then (decide (aY<(ac (u50.2.2.1 - u50.2.2.2)))) else false) fun u51:Bool=>bf (ρ:=(List Int)) (bif u51 then ((xZ ao u50.2.2.2 aY (ac (u50.2.2.1 - u50.2.2.2)) aF).bind fun r62=>bif Nat.beq r62.length ao.length then (some (.inr r62)) else none) else (some (.inr ao))) fun u52:(List Int)=>bV (bif (decide (aW<u50.2.2.2)) then (decide (u50.2.2.2<u50.2.1)) else false) fun u53:Bool=>bf (ρ:=(List Int)) (bif u53 then ((aA (u52,aW,u50.2.2.2,u50.2.1,aF)).bind fun r60=>bif Nat.beq r60.length u52.length then (some (.inr r60)) else none) else (some (.inr u52))) fun u54:(List Int)=>bV (bif (decide (u50.2.1<(ac (u50.2.2.1 - u50.2.2.2)))) then (decide ((ac (u50.2.2.1 - u50.2.2.2))<u50.1)) else false) fun u55:Bool=>bf (ρ:=(List Int)) (bif u55 then ((aA (u54,u50.2.1,(ac (u50.2.2.1 - u50.2.2.2)),u50.1,aF)).bind fun r58=>bif Nat.beq r58.length u54.length then (some (.inr r58)) else none) else (some (.inr u54))) fun u56:(List Int)=>bif Nat.beq u56.length ao.length then (some u56) else none))
def fU (aA:((List Int)×Int×Int×Int×State)→Option (List Int))(x:(List Int)×Int×Int×Int×State):Option (List Int):=uX aA x.1 x.2.1 x.2.2.1 x.2.2.2.1 x.2.2.2.2
def JI (ao:List Int)(aW:Int)(aY:Int)(bh:Int)(aF:State):Option (List Int):=aL fU (ao,aW,aY,bh,aF)
theorem ZG:∀x,Fin1 fun aA=>fU aA x:=by
 unfold fU uX
 repeat first|intro _|exact aU|exact bu|exact js|exact ly|exact iM|exact jJ|exact ja|exact jb|apply bx|apply bd|apply be|apply bm|apply bz|apply qx|unfold pV|unfold jw|unfold jX|unfold jx|unfold pV|unfold jw|unfold jX|unfold jx|unfold pW|unfold jy|unfold jY|unfold jz|unfold pW|unfold jy|unfold jY|unfold jz|unfold rR|unfold kz
theorem acq (ao:List Int)(aW:Int)(aY:Int)(bh:Int)(aF:State):JI ao aW aY bh aF=uX (aL fU) ao aW aY bh aF:=bB ZG (ao,aW,aY,bh,aF)
def ky (ch:List Int)(n_7:Int)(co:State)(self:(Int×Int×(List Int))→Option ((List Int)⊕(Int×Int×(List Int))))(x4:Int×Int×(List Int)):Option ((List Int)⊕(Int×Int×(List Int))):=
 bif (decide (x4.2.1≤n_7)) then ((sh x4.2.2 x4.1 x4.2.1 co).bind fun r5=>bif Nat.beq r5.length x4.2.2.length then (self (x4.2.1,(ac (x4.2.1+20)),r5)) else none) else (some (.inr (n_7,x4.1,x4.2.2)))
def uU (ch:List Int)(n_7:Int)(co:State): (Int×Int×(List Int))→Option ((List Int)⊕(Int×Int×(List Int))):=aL (ky ch n_7 co)
theorem AZ (ch:List Int)(n_7:Int)(co:State): ∀a,Fin1 fun f=>ky ch n_7 co f a:=by
 unfold ky
 repeat first|intro _|exact aU|exact bu|apply bx|apply bd|apply be|apply bm|apply bz
theorem v8 (ch:List Int)(n_7:Int)(co:State)(x:Int×Int×(List Int)):uU ch n_7 co x=ky ch n_7 co (uU ch n_7 co) x:=bB (AZ ch n_7 co) x
def oC (ch:List Int)(n_7:Int)(co:State)(u7:Int×Int×(List Int))(x10:Int×(List Int))(self:(Int×Int×(List Int))→Option ((List Int)⊕(Int×(List Int))))(x11:Int×Int×(List Int)):Option ((List Int)⊕(Int×(List Int))):=
 bif (decide (x11.2.1≤u7.1)) then ((JI x11.2.2 x11.1 (ac (x11.1+x10.1)) x11.2.1 co).bind fun r12=>bif Nat.beq r12.length x11.2.2.length then (self (x11.2.1,(ac (x11.2.1+(ac (2*x10.1)))),r12)) else none) else (some (.inr (x11.1,x11.2.2)))
def uW (ch:List Int)(n_7:Int)(co:State)(u7:Int×Int×(List Int))(x10:Int×(List Int)):(Int×Int×(List Int))→Option ((List Int)⊕(Int×(List Int))):=aL (oC ch n_7 co u7 x10)
theorem A6 (ch:List Int)(n_7:Int)(co:State)(u7:Int×Int×(List Int))(x10:Int×(List Int)):∀a,Fin1 fun f=>oC ch n_7 co u7 x10 f a:=by
 unfold oC
 repeat first|intro _|exact aU|exact bu|apply bx|apply bd|apply be|apply bm|apply bz
theorem R1 (ch:List Int)(n_7:Int)(co:State)(u7:Int×Int×(List Int))(x10:Int×(List Int))(x:Int×Int×(List Int)):uW ch n_7 co u7 x10 x=oC ch n_7 co u7 x10 (uW ch n_7 co u7 x10) x:=bB (A6 ch n_7 co u7 x10) x
def jv (ch:List Int)(n_7:Int)(co:State)(u7:Int×Int×(List Int))(self:(Int×(List Int))→Option ((List Int)⊕(List Int)))(x10:Int×(List Int)):Option ((List Int)⊕(List Int)):=
 bif (decide (x10.1<u7.1)) then (ct (ρ:=(List Int)) (uW ch n_7 co u7 x10 (0,(ac (2*x10.1)),x10.2)) fun u14:Int×(List Int)=>ct (ρ:=(List Int)) (bif (decide ((ac (u14.1+x10.1))<u7.1)) then ((JI u14.2 u14.1 (ac (u14.1+x10.1)) u7.1 co).bind fun r16=>bif Nat.beq r16.length u14.2.length then (some (.inr r16)) else none) else (some (.inr u14.2))) fun u15:(List Int)=>self ((ac (x10.1*2)),u15)) else (some (.inr x10.2))
def uV (ch:List Int)(n_7:Int)(co:State)(u7:Int×Int×(List Int)):(Int×(List Int))→Option ((List Int)⊕(List Int)):=aL (jv ch n_7 co u7)
theorem A5 (ch:List Int)(n_7:Int)(co:State)(u7:Int×Int×(List Int)):∀a,Fin1 fun f=>jv ch n_7 co u7 f a:=by
 unfold jv
 repeat first|intro _|exact aU|exact bu|apply bx|apply bd|apply be|apply bm|apply bz
theorem ro (ch:List Int)(n_7:Int)(co:State)(u7:Int×Int×(List Int))(x:Int×(List Int)):uV ch n_7 co u7 x=jv ch n_7 co u7 (uV ch n_7 co u7) x:=bB (A5 ch n_7 co u7) x
def Dk (ch:List Int)(n_7:Int)(co:State):Option (List Int):=
 bf (ρ:=(List Int)) (uU ch n_7 co (0,20,ch)) fun u7:Int×Int×(List Int)=>(sh u7.2.2 u7.2.1 u7.1 co).bind fun r8=>bif Nat.beq r8.length u7.2.2.length then (bf (ρ:=(List Int)) (uV ch n_7 co u7 (20,r8)) fun u18:(List Int)=>bif Nat.beq u18.length ch.length then (some u18) else none) else none
def vZ (x_3:List Int)(qu:State):Option (List Int):=
 (Dk x_3 (len x_3) qu).bind fun r3=>bif Nat.beq r3.length x_3.length then (bif Nat.beq r3.length x_3.length then (some r3) else none) else none
def nM (c_1:Contract)(s_2:State)(d8:Int)(self:(Int×(List Int))→Option ((List Int)⊕(List Int)))(x4:Int×(List Int)):Option ((List Int)⊕(List Int)):=
 bif (decide (x4.1<(len s_2.Duties))) then ((aG s_2.Duties x4.1).bind fun e5=>ct (ρ:=(List Int)) (bif (e5.Status==1) then ((aG c_1.Clauses e5.Clause).bind fun e9=>(Q0 e5 e9 d8).bind fun r10=>some (.inr r10)) else (some (.inr false))) fun u6:Bool=>ct (ρ:=(List Int)) (bif u6 then ((jh 8 x4.2 [x4.1]).bind fun a8=>some (.inr a8)) else (some (.inr x4.2))) fun u7:(List Int)=>self ((ac (x4.1+1)),u7)) else (some (.inr x4.2))
def qL (c_1:Contract)(s_2:State)(d8:Int): (Int×(List Int))→Option ((List Int)⊕(List Int)):=aL (nM c_1 s_2 d8)
theorem Ip (c_1:Contract)(s_2:State)(d8:Int): ∀a,Fin1 fun f=>nM c_1 s_2 d8 f a:=by
 unfold nM
 repeat first|intro _|exact aU|exact bu|apply bx|apply bd|apply be|apply bm|apply bz
theorem KQ (c_1:Contract)(s_2:State)(d8:Int)(x:Int×(List Int)):qL c_1 s_2 d8 x=nM c_1 s_2 d8 (qL c_1 s_2 d8) x:=bB (Ip c_1 s_2 d8) x
def NX (c_1:Contract)(s_2:State)(d8:Int):Option (List Int):=
 bf (ρ:=(List Int)) (qL c_1 s_2 d8 (0,[])) fun u11:(List Int)=>(vZ u11 s_2).bind fun r12=>bif Nat.beq r12.length u11.length then (some r12) else none
def QZ (c_1:Contract)(s_2:State)(cg:Int):Option (List Int):=
 (NX c_1 s_2 cg).bind fun r4=>some r4
def KC (c_1:Contract)(s_2:State)(cg:Int):Option ((List Int)×Bool):=
 (BZ c_1 s_2 [cg]).bind fun r4=>bif (!r4) then (some ([],false)) else ((QZ c_1 s_2 cg).bind fun r5=>some (r5,true))
def oa (a_1:List Int)(b_2:List Int)(self:Int→Option (Bool⊕Unit))(x3:Int):Option (Bool⊕Unit):=
 bif (decide (x3<(len a_1))) then ((aG a_1 x3).bind fun e4=>(aG b_2 x3).bind fun e5=>bif (e4 != e5) then (some (.inl false)) else (self (ac (x3+1)))) else (some (.inr ()))
def uq (a_1:List Int)(b_2:List Int): Int→Option (Bool⊕Unit):=aL (oa a_1 b_2)
theorem Aq (a_1:List Int)(b_2:List Int): ∀a,Fin1 fun f=>oa a_1 b_2 f a:=by
 unfold oa
 repeat first|intro _|exact aU|exact bu|apply bx|apply bd|apply be|apply bm|apply bz
theorem RG (a_1:List Int)(b_2:List Int)(x:Int):uq a_1 b_2 x=oa a_1 b_2 (uq a_1 b_2) x:=bB (Aq a_1 b_2) x
def tL (a_1:List Int)(b_2:List Int):Option Bool:=
 bif ((len a_1) != (len b_2)) then (some false) else (bf (ρ:=Bool) (uq a_1 b_2 0) fun u6:Unit=>some true)
def ob (a_1:List ae)(b_2:List ae)(self:Int→Option (Bool⊕Unit))(x3:Int):Option (Bool⊕Unit):=
 bif (decide (x3<(len a_1))) then ((aG a_1 x3).bind fun e4=>(aG b_2 x3).bind fun e5=>bif (!(e4==e5)) then (some (.inl false)) else (self (ac (x3+1)))) else (some (.inr ()))
def ur (a_1:List ae)(b_2:List ae): Int→Option (Bool⊕Unit):=aL (ob a_1 b_2)
theorem Ar (a_1:List ae)(b_2:List ae): ∀a,Fin1 fun f=>ob a_1 b_2 f a:=by
 unfold ob
 repeat first|intro _|exact aU|exact bu|apply bx|apply bd|apply be|apply bm|apply bz
theorem RH (a_1:List ae)(b_2:List ae)(x:Int):ur a_1 b_2 x=ob a_1 b_2 (ur a_1 b_2) x:=bB (Ar a_1 b_2) x
def xD (a_1:List ae)(b_2:List ae):Option Bool:=
 bif ((len a_1) != (len b_2)) then (some false) else (bf (ρ:=Bool) (ur a_1 b_2 0) fun u6:Unit=>some true)
def lO (bA:(Condition×Condition)→Option Bool)(a_1:List Condition)(b_2:List Condition)(self:Int→Option (Bool⊕Unit))(x3:Int):Option (Bool⊕Unit):=
 bif (decide (x3<(len a_1))) then ((aG a_1 x3).bind fun e4=>(aG b_2 x3).bind fun e5=>(bA (e4,e5)).bind fun r6=>bif (!r6) then (some (.inl false)) else (self (ac (x3+1)))) else (some (.inr ()))
def rL (bA:(Condition×Condition)→Option Bool)(a_1:List Condition)(b_2:List Condition): Int→Option (Bool⊕Unit):=aL (lO bA a_1 b_2)
theorem Ao (bA:(Condition×Condition)→Option Bool)(a_1:List Condition)(b_2:List Condition): ∀a,Fin1 fun f=>lO bA a_1 b_2 f a:=by
 unfold lO
 repeat first|intro _|exact aU|exact bu|apply bx|apply bd|apply be|apply bm|apply bz
theorem RE (bA:(Condition×Condition)→Option Bool)(a_1:List Condition)(b_2:List Condition)(x:Int):rL bA a_1 b_2 x=lO bA a_1 b_2 (rL bA a_1 b_2) x:=bB (Ao bA a_1 b_2) x
def xB (bA:(Condition×Condition)→Option Bool)(a_1:List Condition)(b_2:List Condition):Option Bool:=
 bif ((len a_1) != (len b_2)) then (some false) else (bf (ρ:=Bool) (rL bA a_1 b_2 0) fun u7:Unit=>some true)
def un (bA:(Condition×Condition)→Option Bool)(a_1:Condition)(b_2:Condition):Option Bool:=
 bif (a_1.Op != b_2.Op) then (some false) else (bif (!(a_1.Name==b_2.Name)) then (some false) else (bif (a_1.Day != b_2.Day) then (some false) else ((xB bA a_1.Parts b_2.Parts).bind fun r3=>bif (!r3) then (some false) else (some true))))
def qG (bA:(Condition×Condition)→Option Bool)(x:Condition×Condition):Option Bool:=un bA x.1 x.2
def Cf (a_1:Condition)(b_2:Condition):Option Bool:=aL qG (a_1,b_2)
theorem YG:∀x,Fin1 fun bA=>qG bA x:=by
 unfold qG un
 repeat first|intro _|exact aU|exact bu|exact js|exact ly|exact iM|exact jJ|exact ja|exact jb|apply bx|apply bd|apply be|apply bm|apply bz|apply qx|unfold xB|unfold rL|unfold lO
theorem acj (a_1:Condition)(b_2:Condition):Cf a_1 b_2=un (aL qG) a_1 b_2:=bB YG (a_1,b_2)
def xy (a_1:Clause)(b_2:Clause):Option Bool:=
 bif (!(a_1.Id==b_2.Id)) then (some false) else (bif (a_1.Kind != b_2.Kind) then (some false) else (bif (a_1.Party != b_2.Party) then (some false) else (bif (!(a_1.Action==b_2.Action)) then (some false) else (bif (a_1.Other != b_2.Other) then (some false) else (bif (a_1.Amount != b_2.Amount) then (some false) else ((Cf a_1.When b_2.When).bind fun r3=>bif (!r3) then (some false) else (bif (a_1.Within != b_2.Within) then (some false) else (bif (!(a_1.Repair==b_2.Repair)) then (some false) else (some true)))))))))
def nY (a_1:List Clause)(b_2:List Clause)(self:Int→Option (Bool⊕Unit))(x3:Int):Option (Bool⊕Unit):=
 bif (decide (x3<(len a_1))) then ((aG a_1 x3).bind fun e4=>(aG b_2 x3).bind fun e5=>(xy e4 e5).bind fun r6=>bif (!r6) then (some (.inl false)) else (self (ac (x3+1)))) else (some (.inr ()))
def um (a_1:List Clause)(b_2:List Clause): Int→Option (Bool⊕Unit):=aL (nY a_1 b_2)
theorem An (a_1:List Clause)(b_2:List Clause): ∀a,Fin1 fun f=>nY a_1 b_2 f a:=by
 unfold nY
 repeat first|intro _|exact aU|exact bu|apply bx|apply bd|apply be|apply bm|apply bz
theorem RD (a_1:List Clause)(b_2:List Clause)(x:Int):um a_1 b_2 x=nY a_1 b_2 (um a_1 b_2) x:=bB (An a_1 b_2) x
def Cd (a_1:List Clause)(b_2:List Clause):Option Bool:=
 bif ((len a_1) != (len b_2)) then (some false) else (bf (ρ:=Bool) (um a_1 b_2 0) fun u7:Unit=>some true)
def Cj (a_1:Contract)(b_2:Contract):Option Bool:=
 (xD a_1.Parties b_2.Parties).bind fun r3=>bif (!r3) then (some false) else ((Cd a_1.Clauses b_2.Clauses).bind fun r4=>bif (!r4) then (some false) else (some true))
def xC (a_1:Duty)(b_2:Duty):Option Bool:=
 bif (a_1.Clause != b_2.Clause) then (some false) else (bif (a_1.Since != b_2.Since) then (some false) else (bif (a_1.Due != b_2.Due) then (some false) else (bif (a_1.Status != b_2.Status) then (some false) else (some true))))
def nZ (a_1:List Duty)(b_2:List Duty)(self:Int→Option (Bool⊕Unit))(x3:Int):Option (Bool⊕Unit):=
 bif (decide (x3<(len a_1))) then ((aG a_1 x3).bind fun e4=>(aG b_2 x3).bind fun e5=>(xC e4 e5).bind fun r6=>bif (!r6) then (some (.inl false)) else (self (ac (x3+1)))) else (some (.inr ()))
def uo (a_1:List Duty)(b_2:List Duty): Int→Option (Bool⊕Unit):=aL (nZ a_1 b_2)
theorem Ap (a_1:List Duty)(b_2:List Duty): ∀a,Fin1 fun f=>nZ a_1 b_2 f a:=by
 unfold nZ
 repeat first|intro _|exact aU|exact bu|apply bx|apply bd|apply be|apply bm|apply bz
theorem RF (a_1:List Duty)(b_2:List Duty)(x:Int):uo a_1 b_2 x=nZ a_1 b_2 (uo a_1 b_2) x:=bB (Ap a_1 b_2) x
def Cm (a_1:List Duty)(b_2:List Duty):Option Bool:=
 bif ((len a_1) != (len b_2)) then (some false) else (bf (ρ:=Bool) (uo a_1 b_2 0) fun u7:Unit=>some true)
def Co (a_1:State)(b_2:State):Option Bool:=
 bif (a_1.Day != b_2.Day) then (some false) else ((xD a_1.Facts b_2.Facts).bind fun r3=>bif (!r3) then (some false) else ((Cm a_1.Duties b_2.Duties).bind fun r4=>bif (!r4) then (some false) else ((tL a_1.Balances b_2.Balances).bind fun r5=>bif (!r5) then (some false) else (bif (!(a_1.Over==b_2.Over)) then (some false) else (some true)))))
def lV (k_1:Int)(self:(Int×ae)→Option (ae⊕ae))(x2:Int×ae):Option (ae⊕ae):=
 bif (decide (x2.1>0)) then ((D7 ([(IntKind.u8.wrap (ac (48+(x2.1.tmod 10))))].map fun n=>UInt8.ofNat n.toNat) x2.2).bind fun s3=>self ((ac (x2.1.tdiv 10)),s3)) else (some (.inr x2.2))
def uC (k_1:Int): (Int×ae)→Option (ae⊕ae):=aL (lV k_1)
theorem AC (k_1:Int): ∀a,Fin1 fun f=>lV k_1 f a:=by
 unfold lV
 repeat first|intro _|exact aU|exact bu|apply bx|apply bd|apply be|apply bm|apply bz
theorem Fu (k_1:Int)(x:Int×ae):uC k_1 x=lV k_1 (uC k_1) x:=bB (AC k_1) x
def pb (k_1:Int):Option ae:=
 bif (decide (k_1≤0)) then (some ([109,48]:ae)) else (bf (ρ:=ae) (uC k_1 (k_1,([]:ae))) fun u4:ae=>(D7 ([109]:ae) u4).bind fun s5=>some s5)
def lU (a_7:List ae)(k_8:Int)(self:(Int×Int×(List ae))→Option ((Int×(List ae))⊕(Int×(List ae))))(x3:Int×Int×(List ae)):Option ((Int×(List ae))⊕(Int×(List ae))):=
 bif (decide (x3.2.1<(len x3.2.2))) then ((pb x3.1).bind fun r4=>(aG x3.2.2 x3.2.1).bind fun e5=>self ((ac (x3.1+1)),(ac (x3.2.1+1)),(bM x3.2.2 x3.2.1 r4))) else (some (.inr (x3.1,x3.2.2)))
def uA (a_7:List ae)(k_8:Int): (Int×Int×(List ae))→Option ((Int×(List ae))⊕(Int×(List ae))):=aL (lU a_7 k_8)
theorem AB (a_7:List ae)(k_8:Int): ∀a,Fin1 fun f=>lU a_7 k_8 f a:=by
 unfold lU
 repeat first|intro _|exact aU|exact bu|apply bx|apply bd|apply be|apply bm|apply bz
theorem Fr (a_7:List ae)(k_8:Int)(x:Int×Int×(List ae)):uA a_7 k_8 x=lU a_7 k_8 (uA a_7 k_8) x:=bB (AB a_7 k_8) x
def xJ (a_7:List ae)(k_8:Int):Option (Int×(List ae)):=
 bf (ρ:=Int×(List ae)) (uA a_7 k_8 (k_8,0,a_7)) fun u6:Int×(List ae)=>bif Nat.beq u6.2.length a_7.length then (some (u6.1,u6.2)) else none
def kv (cG:((List Condition)×Int)→Option (Int×(List Condition)))(a_6:List Condition)(k_7:Int)(self:(Int×Int×(List Condition))→Option ((Int×(List Condition))⊕(Int×(List Condition))))(x3:Int×Int×(List Condition)):Option ((Int×(List Condition))⊕(Int×(List Condition))):=
 bif (decide (x3.2.1<(len x3.2.2))) then ((aG x3.2.2 x3.2.1).bind fun e4=>(pb (ac (x3.1+1))).bind fun r5=>(aG (bM x3.2.2 x3.2.1 (Condition.mk x3.1 e4.Name e4.Day e4.Parts)) x3.2.1).bind fun e6=>bV (bM (bM x3.2.2 x3.2.1 (Condition.mk x3.1 e4.Name e4.Day e4.Parts)) x3.2.1 (Condition.mk e6.Op r5 e6.Day e6.Parts)) fun rw7:List Condition=>(aG rw7 x3.2.1).bind fun e9=>bV (bM rw7 x3.2.1 (Condition.mk e9.Op e9.Name (ac ((ac (x3.1+1))+1)) e9.Parts)) fun rw10:List Condition=>(aG rw10 x3.2.1).bind fun e13=>(cG (e13.Parts,(ac ((ac ((ac (x3.1+1))+1))+1)))).bind fun r14=>bif Nat.beq r14.2.length e13.Parts.length then (bV (bM rw10 x3.2.1 (Condition.mk e13.Op e13.Name e13.Day r14.2)) fun rw16:List Condition=>self (r14.1,(ac (x3.2.1+1)),rw16)) else none) else (some (.inr (x3.1,x3.2.2)))
def mH (cG:((List Condition)×Int)→Option (Int×(List Condition)))(a_6:List Condition)(k_7:Int): (Int×Int×(List Condition))→Option ((Int×(List Condition))⊕(Int×(List Condition))):=aL (kv cG a_6 k_7)
theorem Aw (cG:((List Condition)×Int)→Option (Int×(List Condition)))(a_6:List Condition)(k_7:Int): ∀a,Fin1 fun f=>kv cG a_6 k_7 f a:=by
 unfold kv
 repeat first|intro _|exact aU|exact bu|apply bx|apply bd|apply be|apply bm|apply bz
theorem Fe (cG:((List Condition)×Int)→Option (Int×(List Condition)))(a_6:List Condition)(k_7:Int)(x:Int×Int×(List Condition)):mH cG a_6 k_7 x=kv cG a_6 k_7 (mH cG a_6 k_7) x:=bB (Aw cG a_6 k_7) x
def uu (cG:((List Condition)×Int)→Option (Int×(List Condition)))(a_6:List Condition)(k_7:Int):Option (Int×(List Condition)):=
 bf (ρ:=Int×(List Condition)) (mH cG a_6 k_7 (k_7,0,a_6)) fun u20:Int×(List Condition)=>bif Nat.beq u20.2.length a_6.length then (some (u20.1,u20.2)) else none
def lR (cG:((List Condition)×Int)→Option (Int×(List Condition)))(x:(List Condition)×Int):Option (Int×(List Condition)):=uu cG x.1 x.2
def RI (a_6:List Condition)(k_7:Int):Option (Int×(List Condition)):=aL lR (a_6,k_7)
theorem YR:∀x,Fin1 fun cG=>lR cG x:=by
 unfold lR uu
 repeat first|intro _|exact aU|exact bu|exact js|exact ly|exact iM|exact jJ|exact ja|exact jb|apply bx|apply bd|apply be|apply bm|apply bz|apply qx|unfold mH|unfold kv
theorem ack (a_6:List Condition)(k_7:Int):RI a_6 k_7=uu (aL lR) a_6 k_7:=bB YR (a_6,k_7)
def lQ (a_7:List Clause)(k_8:Int)(self:(Int×Int×(List Clause))→Option ((Int×(List Clause))⊕(Int×(List Clause))))(x3:Int×Int×(List Clause)):Option ((Int×(List Clause))⊕(Int×(List Clause))):=
 bif (decide (x3.2.1<(len x3.2.2))) then ((pb x3.1).bind fun r4=>(aG x3.2.2 x3.2.1).bind fun e5=>(aG (bM x3.2.2 x3.2.1 (Clause.mk r4 e5.Kind e5.Party e5.Action e5.Other e5.Amount e5.When e5.Within e5.Repair)) x3.2.1).bind fun e6=>bV (bM (bM x3.2.2 x3.2.1 (Clause.mk r4 e5.Kind e5.Party e5.Action e5.Other e5.Amount e5.When e5.Within e5.Repair)) x3.2.1 (Clause.mk e6.Id (ac (x3.1+1)) e6.Party e6.Action e6.Other e6.Amount e6.When e6.Within e6.Repair)) fun rw7:List Clause=>(aG rw7 x3.2.1).bind fun e9=>bV (bM rw7 x3.2.1 (Clause.mk e9.Id e9.Kind (ac ((ac (x3.1+1))+1)) e9.Action e9.Other e9.Amount e9.When e9.Within e9.Repair)) fun rw10:List Clause=>(pb (ac ((ac ((ac (x3.1+1))+1))+1))).bind fun r13=>(aG rw10 x3.2.1).bind fun e14=>bV (bM rw10 x3.2.1 (Clause.mk e14.Id e14.Kind e14.Party r13 e14.Other e14.Amount e14.When e14.Within e14.Repair)) fun rw15:List Clause=>(aG rw15 x3.2.1).bind fun e19=>bV (bM rw15 x3.2.1 (Clause.mk e19.Id e19.Kind e19.Party e19.Action (ac ((ac ((ac ((ac (x3.1+1))+1))+1))+1)) e19.Amount e19.When e19.Within e19.Repair)) fun rw20:List Clause=>(aG rw20 x3.2.1).bind fun e25=>bV (bM rw20 x3.2.1 (Clause.mk e25.Id e25.Kind e25.Party e25.Action e25.Other (ac ((ac ((ac ((ac ((ac (x3.1+1))+1))+1))+1))+1)) e25.When e25.Within e25.Repair)) fun rw26:List Clause=>(aG rw26 x3.2.1).bind fun e32=>bV (bM rw26 x3.2.1 (Clause.mk e32.Id e32.Kind e32.Party e32.Action e32.Other e32.Amount (Condition.mk (ac ((ac ((ac ((ac ((ac ((ac (x3.1+1))+1))+1))+1))+1))+1)) e32.When.Name e32.When.Day e32.When.Parts) e32.Within e32.Repair)) fun rw33:List Clause=>(pb (ac ((ac ((ac ((ac ((ac ((ac ((ac (x3.1+1))+1))+1))+1))+1))+1))+1))).bind fun r40=>(aG rw33 x3.2.1).bind fun e41=>bV (bM rw33 x3.2.1 (Clause.mk e41.Id e41.Kind e41.Party e41.Action e41.Other e41.Amount (Condition.mk e41.When.Op r40 e41.When.Day e41.When.Parts) e41.Within e41.Repair)) fun rw42:List Clause=>(aG rw42 x3.2.1).bind fun e50=>bV (bM rw42 x3.2.1 (Clause.mk e50.Id e50.Kind e50.Party e50.Action e50.Other e50.Amount (Condition.mk e50.When.Op e50.When.Name (ac ((ac ((ac ((ac ((ac ((ac ((ac ((ac (x3.1+1))+1))+1))+1))+1))+1))+1))+1)) e50.When.Parts) e50.Within e50.Repair)) fun rw51:List Clause=>(aG rw51 x3.2.1).bind fun e60=>(RI e60.When.Parts (ac ((ac ((ac ((ac ((ac ((ac ((ac ((ac ((ac (x3.1+1))+1))+1))+1))+1))+1))+1))+1))+1))).bind fun r61=>bif Nat.beq r61.2.length e60.When.Parts.length then (bV (bM rw51 x3.2.1 (Clause.mk e60.Id e60.Kind e60.Party e60.Action e60.Other e60.Amount (Condition.mk e60.When.Op e60.When.Name e60.When.Day r61.2) e60.Within e60.Repair)) fun rw63:List Clause=>(aG rw63 x3.2.1).bind fun e73=>bV (bM rw63 x3.2.1 (Clause.mk e73.Id e73.Kind e73.Party e73.Action e73.Other e73.Amount e73.When r61.1 e73.Repair)) fun rw74:List Clause=>(pb (ac (r61.1+1))).bind fun r85=>(aG rw74 x3.2.1).bind fun e86=>bV (bM rw74 x3.2.1 (Clause.mk e86.Id e86.Kind e86.Party e86.Action e86.Other e86.Amount e86.When e86.Within r85)) fun rw87:List Clause=>self ((ac ((ac (r61.1+1))+1)),(ac (x3.2.1+1)),rw87)) else none) else (some (.inr (x3.1,x3.2.2)))
def oc (a_7:List Clause)(k_8:Int): (Int×Int×(List Clause))→Option ((Int×(List Clause))⊕(Int×(List Clause))):=aL (lQ a_7 k_8)
theorem Av (a_7:List Clause)(k_8:Int): ∀a,Fin1 fun f=>lQ a_7 k_8 f a:=by
 unfold lQ
 repeat first|intro _|exact aU|exact bu|apply bx|apply bd|apply be|apply bm|apply bz
theorem Fd (a_7:List Clause)(k_8:Int)(x:Int×Int×(List Clause)):oc a_7 k_8 x=lQ a_7 k_8 (oc a_7 k_8) x:=bB (Av a_7 k_8) x
def Cr (a_7:List Clause)(k_8:Int):Option (Int×(List Clause)):=
 bf (ρ:=Int×(List Clause)) (oc a_7 k_8 (k_8,0,a_7)) fun u99:Int×(List Clause)=>bif Nat.beq u99.2.length a_7.length then (some (u99.1,u99.2)) else none
def Cw (a_7:Contract)(k_8:Int):Option Int:=
 (xJ a_7.Parties k_8).bind fun r3=>bif Nat.beq r3.2.length a_7.Parties.length then ((Cr a_7.Clauses r3.1).bind fun r5=>bif Nat.beq r5.2.length a_7.Clauses.length then (some r5.1) else none) else none
def lS (a_6:List Duty)(k_7:Int)(self:(Int×Int×(List Duty))→Option ((Int×(List Duty))⊕(Int×(List Duty))))(x3:Int×Int×(List Duty)):Option ((Int×(List Duty))⊕(Int×(List Duty))):=
 bif (decide (x3.2.1<(len x3.2.2))) then ((aG x3.2.2 x3.2.1).bind fun e4=>(aG (bM x3.2.2 x3.2.1 (Duty.mk x3.1 e4.Since e4.Due e4.Status)) x3.2.1).bind fun e5=>bV (bM (bM x3.2.2 x3.2.1 (Duty.mk x3.1 e4.Since e4.Due e4.Status)) x3.2.1 (Duty.mk e5.Clause (ac (x3.1+1)) e5.Due e5.Status)) fun rw6:List Duty=>(aG rw6 x3.2.1).bind fun e8=>bV (bM rw6 x3.2.1 (Duty.mk e8.Clause e8.Since (ac ((ac (x3.1+1))+1)) e8.Status)) fun rw9:List Duty=>(aG rw9 x3.2.1).bind fun e12=>bV (bM rw9 x3.2.1 (Duty.mk e12.Clause e12.Since e12.Due (ac ((ac ((ac (x3.1+1))+1))+1)))) fun rw13:List Duty=>self ((ac ((ac ((ac ((ac (x3.1+1))+1))+1))+1)),(ac (x3.2.1+1)),rw13)) else (some (.inr (x3.1,x3.2.2)))
def uw (a_6:List Duty)(k_7:Int): (Int×Int×(List Duty))→Option ((Int×(List Duty))⊕(Int×(List Duty))):=aL (lS a_6 k_7)
theorem Ay (a_6:List Duty)(k_7:Int): ∀a,Fin1 fun f=>lS a_6 k_7 f a:=by
 unfold lS
 repeat first|intro _|exact aU|exact bu|apply bx|apply bd|apply be|apply bm|apply bz
theorem Fj (a_6:List Duty)(k_7:Int)(x:Int×Int×(List Duty)):uw a_6 k_7 x=lS a_6 k_7 (uw a_6 k_7) x:=bB (Ay a_6 k_7) x
def Cy (a_6:List Duty)(k_7:Int):Option (Int×(List Duty)):=
 bf (ρ:=Int×(List Duty)) (uw a_6 k_7 (k_7,0,a_6)) fun u17:Int×(List Duty)=>bif Nat.beq u17.2.length a_6.length then (some (u17.1,u17.2)) else none
def lT (a_6:List Int)(k_7:Int)(self:(Int×Int×(List Int))→Option ((Int×(List Int))⊕(Int×(List Int))))(x3:Int×Int×(List Int)):Option ((Int×(List Int))⊕(Int×(List Int))):=
 bif (decide (x3.2.1<(len x3.2.2))) then ((aG x3.2.2 x3.2.1).bind fun e4=>self ((ac (x3.1+1)),(ac (x3.2.1+1)),(bM x3.2.2 x3.2.1 x3.1))) else (some (.inr (x3.1,x3.2.2)))
def uz (a_6:List Int)(k_7:Int): (Int×Int×(List Int))→Option ((Int×(List Int))⊕(Int×(List Int))):=aL (lT a_6 k_7)
theorem Az (a_6:List Int)(k_7:Int): ∀a,Fin1 fun f=>lT a_6 k_7 f a:=by
 unfold lT
 repeat first|intro _|exact aU|exact bu|apply bx|apply bd|apply be|apply bm|apply bz
theorem Fm (a_6:List Int)(k_7:Int)(x:Int×Int×(List Int)):uz a_6 k_7 x=lT a_6 k_7 (uz a_6 k_7) x:=bB (Az a_6 k_7) x
def xI (a_6:List Int)(k_7:Int):Option (Int×(List Int)):=
 bf (ρ:=Int×(List Int)) (uz a_6 k_7 (k_7,0,a_6)) fun u5:Int×(List Int)=>bif Nat.beq u5.2.length a_6.length then (some (u5.1,u5.2)) else none
def CA (a_9:State)(tT:Int):Option Int:=
 (xJ a_9.Facts tT).bind fun r3=>bif Nat.beq r3.2.length a_9.Facts.length then ((Cy a_9.Duties r3.1).bind fun r5=>bif Nat.beq r5.2.length a_9.Duties.length then ((xI a_9.Balances r5.1).bind fun r7=>bif Nat.beq r7.2.length a_9.Balances.length then (some r7.1) else none) else none) else none
def lP (a_1:List Int)(k_2:Int)(self:(Int×Int)→Option (Int⊕Int))(x3:Int×Int):Option (Int⊕Int):=
 bif (decide (x3.2<(len a_1))) then ((aG a_1 x3.2).bind fun e4=>bif (e4 != x3.1) then (some (.inl (-1))) else (self ((ac (x3.1+1)),(ac (x3.2+1))))) else (some (.inr x3.1))
def ut (a_1:List Int)(k_2:Int): (Int×Int)→Option (Int⊕Int):=aL (lP a_1 k_2)
theorem Au (a_1:List Int)(k_2:Int): ∀a,Fin1 fun f=>lP a_1 k_2 f a:=by
 unfold lP
 repeat first|intro _|exact aU|exact bu|apply bx|apply bd|apply be|apply bm|apply bz
theorem Fa (a_1:List Int)(k_2:Int)(x:Int×Int):ut a_1 k_2 x=lP a_1 k_2 (ut a_1 k_2) x:=bB (Au a_1 k_2) x
def xE (a_1:List Int)(k_2:Int):Option Int:=
 bf (ρ:=Int) (ut a_1 k_2 (k_2,0)) fun u5:Int=>some u5
def gB (gV:Contract)(gW:State)(eK:Int):Option Bool:=
 (CH gV 1048576).bind fun r4=>bif (decide (r4<0)) then (some true) else ((CN gW r4).bind fun r5=>bif (decide (r5<0)) then (some true) else ((tM gV).bind fun r6=>(tN gW).bind fun r7=>(Dp r6 r7 eK).bind fun r8=>(tM gV).bind fun r9=>(tN gW).bind fun r10=>(KC r9 r10 eK).bind fun r11=>(tL r11.1 r8.1).bind fun r12=>bV (bif (!r12) then true else (!(r11.2==r8.2))) fun u13:Bool=>bif u13 then (some false) else ((tM gV).bind fun r14=>(Cj r9 r14).bind fun r15=>bif (!r15) then (some false) else ((tN gW).bind fun r16=>(Co r10 r16).bind fun r17=>bif (!r17) then (some false) else ((Cw r9 1).bind fun r18=>(CA r10 r18).bind fun r19=>bf (ρ:=Bool) (bif (decide (r19<0)) then (some (.inr true)) else ((tL r11.1 r8.1).bind fun r30=>bV (bif (!r30) then true else (!(r11.2==r8.2))) fun u31:Bool=>some (.inr u31))) fun u20:Bool=>bif u20 then (some false) else ((xI r11.1 1).bind fun r21=>bif Nat.beq r21.2.length r11.1.length then ((xE r21.2 1).bind fun r23=>bif (decide (r23<0)) then (some false) else (bif (r23 != r21.1) then (some false) else ((tM gV).bind fun r24=>(tN gW).bind fun r25=>(KC r24 r25 eK).bind fun r26=>(tL r26.1 r8.1).bind fun r27=>bV (bif (!r27) then true else (!(r26.2==r8.2))) fun u28:Bool=>bif u28 then (some false) else ((xE r21.2 1).bind fun r29=>bif (decide (r29<0)) then (some false) else (bif (r29 != r21.1) then (some false) else (some true)))))) else none))))))
end
end Go.Ln
