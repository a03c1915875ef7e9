/-
  What each function computes.
-/
import Derived.Test.YtpbdjajabmdbcaaGreatDoorFnExactClashingClausesLnC
set_option maxHeartbeats 4000000
set_option linter.unusedVariables false
set_option linter.unusedSimpArgs false
set_option maxRecDepth 100000
namespace Go.Ln
open Go
noncomputable section
structure Condition where
 Op:Int
 Name:ac
 Day:Int
 Parts:List Condition
mutual
def au:Condition→V
 | ⟨a0,a1,a2,a3⟩=>.agg [I a0,str a1,I a2,.isl false (du a3)]
def du:List Condition→List V
 | []=>[]
 | x::xs=>au x::du xs
end
theorem nW:∀xs,du xs=xs.map au
 | []=>by simp[du]
 | x::xs=>by simp[du,nW xs]
def aE (x:Condition):V:=.agg [I x.Op,str x.Name,I x.Day,.isl false (x.Parts.map au)]
abbrev aa (x:Condition):V:=.agg [I x.Op,str x.Name,I x.Day,.isl false (x.Parts.map au)]
theorem bd (x:Condition):au x=aE x:=by cases x;simp only[au,aE,nW]
mutual
theorem eW:∀(a b:Condition),au a=au b→a=b
 | ⟨a0,a1,a2,a3⟩,⟨b0,b1,b2,b3⟩,h=>by
  simp only[au] at h
  have k0:=V.agg.inj h
  obtain⟨h0,k1⟩:=List.cons.inj k0
  obtain rfl:=cu a0 b0 h0
  obtain⟨h1,k2⟩:=List.cons.inj k1
  obtain rfl:=bI a1 b1 h1
  obtain⟨h2,k3⟩:=List.cons.inj k2
  obtain rfl:=cu a2 b2 h2
  obtain⟨h3,k4⟩:=List.cons.inj k3
  have e3:du a3=du b3:=by simpa using h3
  obtain rfl:=nV a3 b3 e3
  rfl
theorem nV:∀(a b:List Condition),du a=du b→a=b
 | [],[],_=>rfl
 | [],_::_,h=>by simp[du] at h
 | _::_,[],h=>by simp[du] at h
 | x::xs,y::ys,h=>by
  simp only[du,List.cons.injEq] at h
  rw[eW x y h.1,nV xs ys h.2]
end
theorem bf (a b:Condition)(h:aE a=aE b):a=b:=eW a b (by rw[bd,bd,h])
mutual
def ae:Condition→V
 | ⟨a0,a1,a2,a3⟩=>.agg [I a0,str a1,I a2,.usl 4 (cE a3)]
def cE:List Condition→List V
 | []=>[]
 | x::xs=>ae x::cE xs
end
theorem nZ:∀xs,cE xs=xs.map ae
 | []=>by simp[cE]
 | x::xs=>by simp[cE,nZ xs]
def rj (x:Condition):V:=.agg [I x.Op,str x.Name,I x.Day,.usl 4 (x.Parts.map ae)]
abbrev pq (x:Condition):V:=.agg [I x.Op,str x.Name,I x.Day,.usl 4 (x.Parts.map ae)]
theorem cW (x:Condition):ae x=rj x:=by cases x;simp only[ae,rj,nZ]
mutual
theorem kZ:∀(a b:Condition),ae a=ae b→a=b
 | ⟨a0,a1,a2,a3⟩,⟨b0,b1,b2,b3⟩,h=>by
  simp only[ae] at h
  have k0:=V.agg.inj h
  obtain⟨h0,k1⟩:=List.cons.inj k0
  obtain rfl:=cu a0 b0 h0
  obtain⟨h1,k2⟩:=List.cons.inj k1
  obtain rfl:=bI a1 b1 h1
  obtain⟨h2,k3⟩:=List.cons.inj k2
  obtain rfl:=cu a2 b2 h2
  obtain⟨h3,k4⟩:=List.cons.inj k3
  have e3:cE a3=cE b3:=by simpa using h3
  obtain rfl:=nY a3 b3 e3
  rfl
theorem nY:∀(a b:List Condition),cE a=cE b→a=b
 | [],[],_=>rfl
 | [],_::_,h=>by simp[cE] at h
 | _::_,[],h=>by simp[cE] at h
 | x::xs,y::ys,h=>by
  simp only[cE,List.cons.injEq] at h
  rw[kZ x y h.1,nY xs ys h.2]
end
mutual
theorem pc:∀x:Condition,ee (ae x)=au x
 | ⟨a0,a1,a2,a3⟩=>by simp[ae,au,ee,eX,str,nX]
theorem nX:∀xs:List Condition,eX (cE xs)=du xs
 | []=>by simp[cE,du,eX]
 | x::xs=>by simp[cE,du,eX,pc x,nX xs]
end
mutual
theorem uW:∀x:Condition,cr (ae x)=false
 | ⟨a0,a1,a2,a3⟩=>by simp[ae,cr,di,str,nz]
theorem nz:∀xs:List Condition,di (cE xs)=false
 | []=>by simp[cE,di]
 | x::xs=>by simp[cE,di,uW x,nz xs]
end
structure Clause where
 Id:ac
 Kind:Int
 Party:Int
 Action:ac
 Other:Int
 Amount:Int
 When:Condition
 Within:Int
 Repair:ac
def ar (x:Clause):V:=.agg [str x.Id,I x.Kind,I x.Party,str x.Action,I x.Other,I x.Amount,I x.When.Op,str x.When.Name,I x.When.Day,.isl false (x.When.Parts.map au),I x.Within,str x.Repair]
abbrev al (x:Clause):V:=.agg [str x.Id,I x.Kind,I x.Party,str x.Action,I x.Other,I x.Amount,I x.When.Op,str x.When.Name,I x.When.Day,.isl false (x.When.Parts.map au),I x.Within,str x.Repair]
theorem cV (a b:Clause)(h:ar a=ar b):a=b:=by
 obtain⟨p0,p1,p2,p3,p4,p5,⟨p6,p7,p8,p9⟩,p10,p11⟩:=a
 obtain⟨q0,q1,q2,q3,q4,q5,⟨q6,q7,q8,q9⟩,q10,q11⟩:=b
 replace h:=V.agg.inj h
 obtain⟨h0,h⟩:=List.cons.inj h
 obtain rfl:=bI p0 q0 h0
 obtain⟨h1,h⟩:=List.cons.inj h
 obtain rfl:=cu p1 q1 h1
 obtain⟨h2,h⟩:=List.cons.inj h
 obtain rfl:=cu p2 q2 h2
 obtain⟨h3,h⟩:=List.cons.inj h
 obtain rfl:=bI p3 q3 h3
 obtain⟨h4,h⟩:=List.cons.inj h
 obtain rfl:=cu p4 q4 h4
 obtain⟨h5,h⟩:=List.cons.inj h
 obtain rfl:=cu p5 q5 h5
 obtain⟨h6,h⟩:=List.cons.inj h
 obtain rfl:=cu p6 q6 h6
 obtain⟨h7,h⟩:=List.cons.inj h
 obtain rfl:=bI p7 q7 h7
 obtain⟨h8,h⟩:=List.cons.inj h
 obtain rfl:=cu p8 q8 h8
 obtain⟨h9,h⟩:=List.cons.inj h
 obtain rfl:=(d9 eW) p9 q9 h9
 obtain⟨h10,h⟩:=List.cons.inj h
 obtain rfl:=cu p10 q10 h10
 obtain⟨h11,h⟩:=List.cons.inj h
 obtain rfl:=bI p11 q11 h11
 rfl
def ai (x:Clause):V:=.agg [str x.Id,I x.Kind,I x.Party,str x.Action,I x.Other,I x.Amount,I x.When.Op,str x.When.Name,I x.When.Day,.usl 4 (x.When.Parts.map ae),I x.Within,str x.Repair]
abbrev tB (x:Clause):V:=.agg [str x.Id,I x.Kind,I x.Party,str x.Action,I x.Other,I x.Amount,I x.When.Op,str x.When.Name,I x.When.Day,.usl 4 (x.When.Parts.map ae),I x.Within,str x.Repair]
theorem fX (x:Clause):ee (ai x)=ar x:=X7 (jt rfl (jt rfl (jt rfl (jt rfl (jt rfl (jt rfl (jt rfl (jt rfl (jt rfl (jt (X8 (dE pc)) (jt rfl (jt rfl rfl))))))))))))
theorem ri (a b:Clause)(h:ai a=ai b):a=b:=by
 obtain⟨p0,p1,p2,p3,p4,p5,⟨p6,p7,p8,p9⟩,p10,p11⟩:=a
 obtain⟨q0,q1,q2,q3,q4,q5,⟨q6,q7,q8,q9⟩,q10,q11⟩:=b
 replace h:=V.agg.inj h
 obtain⟨h0,h⟩:=List.cons.inj h
 obtain rfl:=bI p0 q0 h0
 obtain⟨h1,h⟩:=List.cons.inj h
 obtain rfl:=cu p1 q1 h1
 obtain⟨h2,h⟩:=List.cons.inj h
 obtain rfl:=cu p2 q2 h2
 obtain⟨h3,h⟩:=List.cons.inj h
 obtain rfl:=bI p3 q3 h3
 obtain⟨h4,h⟩:=List.cons.inj h
 obtain rfl:=cu p4 q4 h4
 obtain⟨h5,h⟩:=List.cons.inj h
 obtain rfl:=cu p5 q5 h5
 obtain⟨h6,h⟩:=List.cons.inj h
 obtain rfl:=cu p6 q6 h6
 obtain⟨h7,h⟩:=List.cons.inj h
 obtain rfl:=bI p7 q7 h7
 obtain⟨h8,h⟩:=List.cons.inj h
 obtain rfl:=cu p8 q8 h8
 obtain⟨h9,h⟩:=List.cons.inj h
 obtain rfl:=(fZ kZ) p9 q9 h9
 obtain⟨h10,h⟩:=List.cons.inj h
 obtain rfl:=cu p10 q10 h10
 obtain⟨h11,h⟩:=List.cons.inj h
 obtain rfl:=bI p11 q11 h11
 rfl
structure Contract where
 Parties:List ac
 Clauses:List Clause
def aO (x:Contract):V:=.agg [.isl false (x.Parties.map str),.isl false (x.Clauses.map ar)]
abbrev ak (x:Contract):V:=.agg [.isl false (x.Parties.map str),.isl false (x.Clauses.map ar)]
theorem bN (a b:Contract)(h:aO a=aO b):a=b:=by
 obtain⟨p0,p1⟩:=a
 obtain⟨q0,q1⟩:=b
 replace h:=V.agg.inj h
 obtain⟨h0,h⟩:=List.cons.inj h
 obtain rfl:=(d9 bI) p0 q0 h0
 obtain⟨h1,h⟩:=List.cons.inj h
 obtain rfl:=(d9 cV) p1 q1 h1
 rfl
def px (x:Contract):V:=.agg [.usl 1 (x.Parties.map str),.usl 12 (x.Clauses.map ai)]
abbrev jW (x:Contract):V:=.agg [.usl 1 (x.Parties.map str),.usl 12 (x.Clauses.map ai)]
theorem xG (a b:Contract)(h:px a=px b):a=b:=by
 obtain⟨p0,p1⟩:=a
 obtain⟨q0,q1⟩:=b
 replace h:=V.agg.inj h
 obtain⟨h0,h⟩:=List.cons.inj h
 obtain rfl:=(fZ bI) p0 q0 h0
 obtain⟨h1,h⟩:=List.cons.inj h
 obtain rfl:=(fZ ri) p1 q1 h1
 rfl
structure ArrInt2 where
 E0:Int
 E1:Int
def ah (x:ArrInt2):V:=.agg [I x.E0,I x.E1]
theorem pB (x:ArrInt2):(cells (ah x)).length=2∧(cells (ah x)).all eM=true:=⟨rfl,rfl⟩
theorem fy (x:ArrInt2):ee (ah x)=ah x:=rfl
theorem mm (x:ArrInt2):cr (ah x)=false:=rfl
theorem gQ (a b:ArrInt2)(h:ah a=ah b):a=b:=by
 obtain⟨p0,p1⟩:=a
 obtain⟨q0,q1⟩:=b
 replace h:=V.agg.inj h
 obtain⟨h0,h⟩:=List.cons.inj h
 obtain rfl:=cu p0 q0 h0
 obtain⟨h1,h⟩:=List.cons.inj h
 obtain rfl:=cu p1 q1 h1
 rfl
mutual
def od:Condition→Prop
 | ⟨a0,a1,a2,a3⟩=>yC a0∧Gn a1∧yC a2∧(a3.length≤maxLen∧Ih a3)
def Ih:List Condition→Prop
 | []=>True
 | x::xs=>od x∧Ih xs
end
theorem Ii:∀xs,Ih xs↔∀x∈xs,od x
 | []=>by simp[Ih]
 | x::xs=>by simp[Ih,Ii xs]
theorem Ig (x:Condition):od x↔yC x.Op∧Gn x.Name∧yC x.Day∧Eo od x.Parts:=by cases x;simp only[od,Ii,Eo]
def rp (x:Clause):Prop:=Gn x.Id∧yC x.Kind∧yC x.Party∧Gn x.Action∧yC x.Other∧yC x.Amount∧od x.When∧yC x.Within∧Gn x.Repair
def RH (x:Contract):Prop:=(Eo Gn) x.Parties∧(Eo rp) x.Clauses
def mD (a_1:List ac)(az:Int)(self:(Int×Int)→Option (Int⊕Int))(x3:Int×Int):Option (Int⊕Int):=
 bif (decide (x3.2<(len a_1))) then ((aM a_1 x3.2).bind fun e4=>bif (decide ((aj (x3.1 - (len e4)))<0)) then (some (.inl (-1))) else (self ((aj (x3.1 - (len e4))),(aj (x3.2+1))))) else (some (.inr x3.1))
def sC (a_1:List ac)(az:Int): (Int×Int)→Option (Int⊕Int):=aA (mD a_1 az)
theorem xV (a_1:List ac)(az:Int): ∀a,Fin1 fun f=>mD a_1 az f a:=by
 unfold mD
 repeat first|intro _|exact aJ|exact bu|apply bw|apply aY|apply aZ|apply bh|apply bx
theorem Mp (a_1:List ac)(az:Int)(x:Int×Int):sC a_1 az x=mD a_1 az (sC a_1 az) x:=bA (xV a_1 az) x
def zE (a_1:List ac)(az:Int):Option Int:=
 bif (decide ((aj (az - (len a_1)))<0)) then (some (-1)) else (bn (ρ:=Int) (sC a_1 az ((aj (az - (len a_1))),0)) fun u5:Int=>some u5)
def kE (bb:(Condition×Int)→Option Int)(a_1:List Condition)(az:Int)(self:(Int×Int)→Option (Int⊕Int))(x3:Int×Int):Option (Int⊕Int):=
 bif (decide (x3.2<(len a_1))) then ((aM a_1 x3.2).bind fun e4=>(bb (e4,x3.1)).bind fun r5=>bif (decide (r5<0)) then (some (.inl (-1))) else (self (r5,(aj (x3.2+1))))) else (some (.inr x3.1))
def pY (bb:(Condition×Int)→Option Int)(a_1:List Condition)(az:Int): (Int×Int)→Option (Int⊕Int):=aA (kE bb a_1 az)
theorem xU (bb:(Condition×Int)→Option Int)(a_1:List Condition)(az:Int): ∀a,Fin1 fun f=>kE bb a_1 az f a:=by
 unfold kE
 repeat first|intro _|exact aJ|exact bu|apply bw|apply aY|apply aZ|apply bh|apply bx
theorem Mo (bb:(Condition×Int)→Option Int)(a_1:List Condition)(az:Int)(x:Int×Int):pY bb a_1 az x=kE bb a_1 az (pY bb a_1 az) x:=bA (xU bb a_1 az) x
def vg (bb:(Condition×Int)→Option Int)(a_1:List Condition)(az:Int):Option Int:=
 bif (decide ((aj (az - (len a_1)))<0)) then (some (-1)) else (bn (ρ:=Int) (pY bb a_1 az ((aj (az - (len a_1))),0)) fun u6:Int=>some u6)
def sB (bb:(Condition×Int)→Option Int)(a_1:Condition)(az:Int):Option Int:=
 bif (decide ((aj (az - (len a_1.Name)))<0)) then (some (-1)) else ((vg bb a_1.Parts (aj (az - (len a_1.Name)))).bind fun r3=>bif (decide (r3<0)) then (some (-1)) else (some r3))
def oW (bb:(Condition×Int)→Option Int)(x:Condition×Int):Option Int:=sB bb x.1 x.2
def vd (a_1:Condition)(az:Int):Option Int:=aA oW (a_1,az)
theorem Ru:∀x,Fin1 fun bb=>oW bb x:=by
 unfold oW sB
 repeat first|intro _|exact aJ|exact bu|exact ip|exact jq|exact gv|exact iw|exact gL|exact gM|apply bw|apply aY|apply aZ|apply bh|apply bx|apply nC|unfold vg|unfold pY|unfold kE
theorem Um (a_1:Condition)(az:Int):vd a_1 az=sB (aA oW) a_1 az:=bA Ru (a_1,az)
def tI (a_1:Clause)(az:Int):Option Int:=
 bif (decide ((aj (az - (len a_1.Id)))<0)) then (some (-1)) else (bif (decide ((aj ((aj (az - (len a_1.Id))) - (len a_1.Action)))<0)) then (some (-1)) else ((vd a_1.When (aj ((aj (az - (len a_1.Id))) - (len a_1.Action)))).bind fun r3=>bif (decide (r3<0)) then (some (-1)) else (bif (decide ((aj (r3 - (len a_1.Repair)))<0)) then (some (-1)) else (some (aj (r3 - (len a_1.Repair)))))))
def mC (a_1:List Clause)(az:Int)(self:(Int×Int)→Option (Int⊕Int))(x3:Int×Int):Option (Int⊕Int):=
 bif (decide (x3.2<(len a_1))) then ((aM a_1 x3.2).bind fun e4=>(tI e4 x3.1).bind fun r5=>bif (decide (r5<0)) then (some (.inl (-1))) else (self (r5,(aj (x3.2+1))))) else (some (.inr x3.1))
def sA (a_1:List Clause)(az:Int): (Int×Int)→Option (Int⊕Int):=aA (mC a_1 az)
theorem xT (a_1:List Clause)(az:Int): ∀a,Fin1 fun f=>mC a_1 az f a:=by
 unfold mC
 repeat first|intro _|exact aJ|exact bu|apply bw|apply aY|apply aZ|apply bh|apply bx
theorem Mn (a_1:List Clause)(az:Int)(x:Int×Int):sA a_1 az x=mC a_1 az (sA a_1 az) x:=bA (xT a_1 az) x
def zx (a_1:List Clause)(az:Int):Option Int:=
 bif (decide ((aj (az - (len a_1)))<0)) then (some (-1)) else (bn (ρ:=Int) (sA a_1 az ((aj (az - (len a_1))),0)) fun u6:Int=>some u6)
def zC (a_1:Contract)(az:Int):Option Int:=
 (zE a_1.Parties az).bind fun r3=>bif (decide (r3<0)) then (some (-1)) else ((zx a_1.Clauses r3).bind fun r4=>bif (decide (r4<0)) then (some (-1)) else (some r4))
def mF (a_1:List ac)(self:(Int×(List ac))→Option ((List ac)⊕(List ac)))(x3:Int×(List ac)):Option ((List ac)⊕(List ac)):=
 bif (decide (x3.1<(len a_1))) then ((aM a_1 x3.1).bind fun e4=>(aM x3.2 x3.1).bind fun e5=>self ((aj (x3.1+1)),(cS x3.2 x3.1 e4))) else (some (.inr x3.2))
def sF (a_1:List ac): (Int×(List ac))→Option ((List ac)⊕(List ac)):=aA (mF a_1)
theorem xY (a_1:List ac): ∀a,Fin1 fun f=>mF a_1 f a:=by
 unfold mF
 repeat first|intro _|exact aJ|exact bu|apply bw|apply aY|apply aZ|apply bh|apply bx
theorem Ms (a_1:List ac)(x:Int×(List ac)):sF a_1 x=mF a_1 (sF a_1) x:=bA (xY a_1) x
def zN (a_1:List ac):Option (List ac):=
 (uR 16 [] (len a_1)).bind fun m2=>bn (ρ:=(List ac)) (sF a_1 (0,m2)) fun u6:(List ac)=>some u6
def kF (bc:Condition→Option Condition)(a_1:List Condition)(self:(Int×(List Condition))→Option ((List Condition)⊕(List Condition)))(x3:Int×(List Condition)):Option ((List Condition)⊕(List Condition)):=
 bif (decide (x3.1<(len a_1))) then ((aM a_1 x3.1).bind fun e4=>(bc e4).bind fun r5=>(aM x3.2 x3.1).bind fun e6=>self ((aj (x3.1+1)),(cS x3.2 x3.1 r5))) else (some (.inr x3.2))
def pZ (bc:Condition→Option Condition)(a_1:List Condition): (Int×(List Condition))→Option ((List Condition)⊕(List Condition)):=aA (kF bc a_1)
theorem xX (bc:Condition→Option Condition)(a_1:List Condition): ∀a,Fin1 fun f=>kF bc a_1 f a:=by
 unfold kF
 repeat first|intro _|exact aJ|exact bu|apply bw|apply aY|apply aZ|apply bh|apply bx
theorem Mr (bc:Condition→Option Condition)(a_1:List Condition)(x:Int×(List Condition)):pZ bc a_1 x=kF bc a_1 (pZ bc a_1) x:=bA (xX bc a_1) x
def vk (bc:Condition→Option Condition)(a_1:List Condition):Option (List Condition):=
 (uR 56 (Condition.mk 0 [] 0 []) (len a_1)).bind fun m2=>bn (ρ:=(List Condition)) (pZ bc a_1 (0,m2)) fun u7:(List Condition)=>some u7
def sE (bc:Condition→Option Condition)(a_1:Condition):Option Condition:=
 (vk bc a_1.Parts).bind fun r2=>some (Condition.mk a_1.Op a_1.Name a_1.Day r2)
def oX (bc:Condition→Option Condition)(x:Condition):Option Condition:=sE bc x
def zJ (a_1:Condition):Option Condition:=aA oX a_1
theorem RC:∀x,Fin1 fun bc=>oX bc x:=by
 unfold oX sE
 repeat first|intro _|exact aJ|exact bu|exact ip|exact jq|exact gv|exact iw|exact gL|exact gM|apply bw|apply aY|apply aZ|apply bh|apply bx|apply nC|unfold vk|unfold pZ|unfold kF
theorem Uo (a_1:Condition):zJ a_1=sE (aA oX) a_1:=bA RC a_1
def vh (a_1:Clause):Option Clause:=
 (zJ a_1.When).bind fun r2=>some (Clause.mk a_1.Id a_1.Kind a_1.Party a_1.Action a_1.Other a_1.Amount r2 a_1.Within a_1.Repair)
def mE (a_1:List Clause)(self:(Int×(List Clause))→Option ((List Clause)⊕(List Clause)))(x3:Int×(List Clause)):Option ((List Clause)⊕(List Clause)):=
 bif (decide (x3.1<(len a_1))) then ((aM a_1 x3.1).bind fun e4=>(vh e4).bind fun r5=>(aM x3.2 x3.1).bind fun e6=>self ((aj (x3.1+1)),(cS x3.2 x3.1 r5))) else (some (.inr x3.2))
def sD (a_1:List Clause): (Int×(List Clause))→Option ((List Clause)⊕(List Clause)):=aA (mE a_1)
theorem xW (a_1:List Clause): ∀a,Fin1 fun f=>mE a_1 f a:=by
 unfold mE
 repeat first|intro _|exact aJ|exact bu|apply bw|apply aY|apply aZ|apply bh|apply bx
theorem Mq (a_1:List Clause)(x:Int×(List Clause)):sD a_1 x=mE a_1 (sD a_1) x:=bA (xW a_1) x
def zH (a_1:List Clause):Option (List Clause):=
 (uR 144 (Clause.mk [] 0 0 [] 0 0 (Condition.mk 0 [] 0 []) 0 []) (len a_1)).bind fun m2=>bn (ρ:=(List Clause)) (sD a_1 (0,m2)) fun u7:(List Clause)=>some u7
def rB (a_1:Contract):Option Contract:=
 (zN a_1.Parties).bind fun r2=>(zH a_1.Clauses).bind fun r3=>some (Contract.mk r2 r3)
def eQ (x_1:Int)(a_2:Int)(b_3:Int):Option Bool:=
 dA (bif (decide (x_1≥a_2)) then (decide (x_1≤b_3)) else false) fun u4:Bool=>some u4
def vL (b_1:Int):Option Bool:=
 dA (bif (decide (b_1≥97)) then (dA (bif (decide (b_1≤122)) then true else (dA (bif (decide (b_1≥48)) then (decide (b_1≤57)) else false) fun u4:Bool=>u4)) fun u3:Bool=>u3) else (dA (bif (decide (b_1≥48)) then (decide (b_1≤57)) else false) fun u5:Bool=>u5)) fun u2:Bool=>some u2
def mL (s_1:ac)(self:Int→Option (Bool⊕Unit))(x4:Int):Option (Bool⊕Unit):=
 bif (decide (x4<(len s_1))) then ((aM s_1 x4).bind fun c5=>(vL (c5.toNat:Int)).bind fun r6=>bif (!r6) then (some (.inl false)) else (self (aj (x4+1)))) else (some (.inr ()))
def sP (s_1:ac): Int→Option (Bool⊕Unit):=aA (mL s_1)
theorem yp (s_1:ac): ∀a,Fin1 fun f=>mL s_1 f a:=by
 unfold mL
 repeat first|intro _|exact aJ|exact bu|apply bw|apply aY|apply aZ|apply bh|apply bx
theorem Mw (s_1:ac)(x:Int):sP s_1 x=mL s_1 (sP s_1) x:=bA (yp s_1) x
def rE (s_1:ac):Option Bool:=
 (eQ (len s_1) 1 8).bind fun r2=>bn (ρ:=Bool) (bif (!r2) then (some (.inr true)) else ((aM s_1 0).bind fun c16=>ca (ρ:=Bool) (bif (decide ((c16.toNat:Int)<97)) then (some (.inr true)) else ((aM s_1 0).bind fun c18=>some (.inr (decide ((c18.toNat:Int)>122))))) fun u17:Bool=>some (.inr u17))) fun u3:Bool=>bif u3 then (some false) else (bn (ρ:=Bool) (sP s_1 0) fun u7:Unit=>dA (bif (s_1==([116,114,117,101]:ac)) then (s_1==([116,114,117,101]:ac)) else (dA (bif (s_1==([102,114,111,109]:ac)) then (s_1==([102,114,111,109]:ac)) else (dA (bif (s_1==([110,111,116]:ac)) then (s_1==([110,111,116]:ac)) else (dA (bif (s_1==([97,110,100]:ac)) then (s_1==([97,110,100]:ac)) else (dA (bif (s_1==([111,114]:ac)) then (s_1==([111,114]:ac)) else (dA (bif (s_1==([98,111,116,104]:ac)) then (s_1==([98,111,116,104]:ac)) else (dA (bif (s_1==([101,105,116,104,101,114]:ac)) then (s_1==([101,105,116,104,101,114]:ac)) else (dA (bif (s_1==([105,116]:ac)) then (s_1==([105,116]:ac)) else (s_1==([105,110]:ac))) fun u15:Bool=>u15)) fun u14:Bool=>u14)) fun u13:Bool=>u13)) fun u12:Bool=>u12)) fun u11:Bool=>u11)) fun u10:Bool=>u10)) fun u9:Bool=>u9)) fun u8:Bool=>bif u8 then (some false) else (some true))
def kL (bo:List ac)(eA:ac)(self:Int→Option (Bool⊕Unit))(x3:Int):Option (Bool⊕Unit):=
 bif (decide (x3<(len bo))) then ((aM bo x3).bind fun e4=>bif (e4==eA) then (some (.inl true)) else (self (aj (x3+1)))) else (some (.inr ()))
def qd (bo:List ac)(eA:ac): Int→Option (Bool⊕Unit):=aA (kL bo eA)
theorem yk (bo:List ac)(eA:ac): ∀a,Fin1 fun f=>kL bo eA f a:=by
 unfold kL
 repeat first|intro _|exact aJ|exact bu|apply bw|apply aY|apply aZ|apply bh|apply bx
theorem CD (bo:List ac)(eA:ac)(x:Int):qd bo eA x=kL bo eA (qd bo eA) x:=bA (yk bo eA) x
def rD (bo:List ac)(eA:ac):Option Bool:=
 bn (ρ:=Bool) (qd bo eA 0) fun u5:Unit=>some false
def kT (c_1:Contract)(self:Int→Option (Bool⊕Unit))(x2:Int):Option (Bool⊕Unit):=
 bif (decide (x2<(len c_1.Parties))) then ((aM c_1.Parties x2).bind fun e3=>(rE e3).bind fun r4=>ca (ρ:=Bool) (bif (!r4) then (some (.inr true)) else ((qS c_1.Parties 0 x2).bind fun s6=>(aM c_1.Parties x2).bind fun e7=>(rD s6 e7).bind fun r8=>some (.inr r8))) fun u5:Bool=>bif u5 then (some (.inl false)) else (self (aj (x2+1)))) else (some (.inr ()))
def ta (c_1:Contract): Int→Option (Bool⊕Unit):=aA (kT c_1)
theorem yA (c_1:Contract): ∀a,Fin1 fun f=>kT c_1 f a:=by
 unfold kT
 repeat first|intro _|exact aJ|exact bu|apply bw|apply aY|apply aZ|apply bh|apply bx
theorem Df (c_1:Contract)(x:Int):ta c_1 x=kT c_1 (ta c_1) x:=bA (yA c_1) x
def vU (c_1:Contract):Option Bool:=
 bn (ρ:=Bool) (ta c_1 0) fun u9:Unit=>(eQ (len c_1.Parties) 2 4).bind fun r10=>some r10
def mN (c_1:Contract)(eK:ac)(self:Int→Option (Int⊕Unit))(x3:Int):Option (Int⊕Unit):=
 bif (decide (x3<(len c_1.Clauses))) then ((aM c_1.Clauses x3).bind fun e4=>bif (e4.Id==eK) then (some (.inl x3)) else (self (aj (x3+1)))) else (some (.inr ()))
def sX (c_1:Contract)(eK:ac): Int→Option (Int⊕Unit):=aA (mN c_1 eK)
theorem yx (c_1:Contract)(eK:ac): ∀a,Fin1 fun f=>mN c_1 eK f a:=by
 unfold mN
 repeat first|intro _|exact aJ|exact bu|apply bw|apply aY|apply aZ|apply bh|apply bx
theorem Mx (c_1:Contract)(eK:ac)(x:Int):sX c_1 eK x=mN c_1 eK (sX c_1 eK) x:=bA (yx c_1 eK) x
def tQ (c_1:Contract)(eK:ac):Option Int:=
 bn (ρ:=Int) (sX c_1 eK 0) fun u5:Unit=>some (-1)
def ES (gE:Int):Option Bool:=
 (eQ gE 0 36524).bind fun r2=>some r2
def Aa (c_1:Condition):Option Bool:=
 bif (c_1.Op==1) then (dA (bif ((len c_1.Parts)==0) then (dA (bif (c_1.Name==([]:ac)) then (c_1.Day==0) else false) fun u3:Bool=>u3) else false) fun u2:Bool=>some u2) else (bif (c_1.Op==2) then (bn (ρ:=Bool) (bif ((len c_1.Parts)==0) then ((rE c_1.Name).bind fun r5=>dA (bif r5 then (c_1.Day==0) else false) fun u6:Bool=>some (.inr u6)) else (some (.inr false))) fun u4:Bool=>some u4) else (bif (c_1.Op==3) then (bn (ρ:=Bool) (bif ((len c_1.Parts)==0) then (ca (ρ:=Bool) (bif (c_1.Name==([]:ac)) then ((ES c_1.Day).bind fun r9=>some (.inr r9)) else (some (.inr false))) fun u8:Bool=>some (.inr u8)) else (some (.inr false))) fun u7:Bool=>some u7) else (bif (c_1.Op==4) then (dA (bif ((len c_1.Parts)==1) then (dA (bif (c_1.Name==([]:ac)) then (c_1.Day==0) else false) fun u11:Bool=>u11) else false) fun u10:Bool=>some u10) else (dA (bif (c_1.Op==5) then (c_1.Op==5) else (c_1.Op==6)) fun u12:Bool=>bif u12 then (dA (bif ((len c_1.Parts)==2) then (dA (bif (c_1.Name==([]:ac)) then (c_1.Day==0) else false) fun u14:Bool=>u14) else false) fun u13:Bool=>some u13) else (some false)))))
def kK (ce:Condition→Option Bool)(c_1:Condition)(self:Int→Option (Bool⊕Unit))(x3:Int):Option (Bool⊕Unit):=
 bif (decide (x3<(len c_1.Parts))) then ((aM c_1.Parts x3).bind fun e4=>(ce e4).bind fun r5=>bif (!r5) then (some (.inl false)) else (self (aj (x3+1)))) else (some (.inr ()))
def qc (ce:Condition→Option Bool)(c_1:Condition): Int→Option (Bool⊕Unit):=aA (kK ce c_1)
theorem yj (ce:Condition→Option Bool)(c_1:Condition): ∀a,Fin1 fun f=>kK ce c_1 f a:=by
 unfold kK
 repeat first|intro _|exact aJ|exact bu|apply bw|apply aY|apply aZ|apply bh|apply bx
theorem Mv (ce:Condition→Option Bool)(c_1:Condition)(x:Int):qc ce c_1 x=kK ce c_1 (qc ce c_1) x:=bA (yj ce c_1) x
def sM (ce:Condition→Option Bool)(c_1:Condition):Option Bool:=
 (Aa c_1).bind fun r2=>bif (!r2) then (some false) else (bn (ρ:=Bool) (qc ce c_1 0) fun u6:Unit=>some true)
def qo (ce:Condition→Option Bool)(x:Condition):Option Bool:=sM ce x
def ET (c_1:Condition):Option Bool:=aA qo c_1
theorem RX:∀x,Fin1 fun ce=>qo ce x:=by
 unfold qo sM
 repeat first|intro _|exact aJ|exact bu|exact ip|exact jq|exact gv|exact iw|exact gL|exact gM|apply bw|apply aY|apply aZ|apply bh|apply bx|apply nC|unfold qc|unfold kK
theorem Ur (c_1:Condition):ET c_1=sM (aA qo) c_1:=bA RX c_1
def jH (cg:Condition→Option Int)(c_1:Condition)(self:(Int×Int)→Option (Int⊕Int))(x2:Int×Int):Option (Int⊕Int):=
 bif (decide (x2.2<(len c_1.Parts))) then ((aM c_1.Parts x2.2).bind fun e3=>(cg e3).bind fun r4=>self ((aj (x2.1+r4)),(aj (x2.2+1)))) else (some (.inr x2.1))
def lw (cg:Condition→Option Int)(c_1:Condition): (Int×Int)→Option (Int⊕Int):=aA (jH cg c_1)
theorem yu (cg:Condition→Option Int)(c_1:Condition): ∀a,Fin1 fun f=>jH cg c_1 f a:=by
 unfold jH
 repeat first|intro _|exact aJ|exact bu|apply bw|apply aY|apply aZ|apply bh|apply bx
theorem CT (cg:Condition→Option Int)(c_1:Condition)(x:Int×Int):lw cg c_1 x=jH cg c_1 (lw cg c_1) x:=bA (yu cg c_1) x
def sV (cg:Condition→Option Int)(c_1:Condition):Option Int:=
 bn (ρ:=Int) (lw cg c_1 (1,0)) fun u5:Int=>some u5
def kP (cg:Condition→Option Int)(x:Condition):Option Int:=sV cg x
def IC (c_1:Condition):Option Int:=aA kP c_1
theorem Sb:∀x,Fin1 fun cg=>kP cg x:=by
 unfold kP sV
 repeat first|intro _|exact aJ|exact bu|exact ip|exact jq|exact gv|exact iw|exact gL|exact gM|apply bw|apply aY|apply aZ|apply bh|apply bx|apply nC|unfold lw|unfold jH
theorem Us (c_1:Condition):IC c_1=sV (aA kP) c_1:=bA Sb c_1
def Ae (c_1:Condition):Option Bool:=
 (ET c_1).bind fun r2=>bn (ρ:=Bool) (bif r2 then ((IC c_1).bind fun r4=>some (.inr (decide (r4≤15)))) else (some (.inr false))) fun u3:Bool=>some u3
def Am (c_1:Contract)(i_2:Int):Option Bool:=
 (aM c_1.Clauses i_2).bind fun e3=>(rE e3.Id).bind fun r4=>bn (ρ:=Bool) (bif (!r4) then (some (.inr true)) else ((rE e3.Action).bind fun r17=>ca (ρ:=Bool) (bif (!r17) then (some (.inr true)) else ((eQ e3.Kind 1 4).bind fun r19=>ca (ρ:=Bool) (bif (!r19) then (some (.inr true)) else ((eQ e3.Party 0 (aj ((len c_1.Parties) - 1))).bind fun r21=>ca (ρ:=Bool) (bif (!r21) then (some (.inr true)) else ((eQ e3.Other 0 (aj ((len c_1.Parties) - 1))).bind fun r23=>ca (ρ:=Bool) (bif (!r23) then (some (.inr true)) else (ca (ρ:=Bool) (bif (e3.Party==e3.Other) then (some (.inr true)) else ((Ae e3.When).bind fun r26=>some (.inr (!r26)))) fun u25:Bool=>some (.inr u25))) fun u24:Bool=>some (.inr u24))) fun u22:Bool=>some (.inr u22))) fun u20:Bool=>some (.inr u20))) fun u18:Bool=>some (.inr u18))) fun u5:Bool=>bif u5 then (some false) else ((eQ e3.Amount 0 1000000).bind fun r6=>bn (ρ:=Bool) (bif (!r6) then (some (.inr true)) else ((eQ e3.Within 0 400).bind fun r13=>dA (bif (!r13) then true else (dA (bif (e3.Kind != 1) then (dA (bif (e3.Amount != 0) then true else (e3.Within != 0)) fun u16:Bool=>u16) else false) fun u15:Bool=>u15)) fun u14:Bool=>some (.inr u14))) fun u7:Bool=>bif u7 then (some false) else (bif (e3.Repair==([]:ac)) then (some true) else ((tQ c_1 e3.Repair).bind fun r8=>bn (ρ:=Bool) (bif (decide (r8≥0)) then (ca (ρ:=Bool) (bif (r8 != i_2) then ((aM c_1.Clauses r8).bind fun e11=>dA (bif (e11.Kind==1) then (e3.Kind != 3) else false) fun u12:Bool=>some (.inr u12)) else (some (.inr false))) fun u10:Bool=>some (.inr u10)) else (some (.inr false))) fun u9:Bool=>some u9)))
def kO (l_8:List ac)(s_9:ac)(self:Int→Option ((List ac)⊕(ac×Int×(List ac))))(x3:Int):Option ((List ac)⊕(ac×Int×(List ac))):=
 ca (ρ:=(List ac)) (bif (decide (x3<(len l_8))) then ((aM l_8 x3).bind fun e5=>some (.inr (Op.bytesLess e5 s_9))) else (some (.inr false))) fun u4:Bool=>bif u4 then (self (aj (x3+1))) else (some (.inr (s_9,x3,l_8)))
def sS (l_8:List ac)(s_9:ac): Int→Option ((List ac)⊕(ac×Int×(List ac))):=aA (kO l_8 s_9)
theorem yt (l_8:List ac)(s_9:ac): ∀a,Fin1 fun f=>kO l_8 s_9 f a:=by
 unfold kO
 repeat first|intro _|exact aJ|exact bu|apply bw|apply aY|apply aZ|apply bh|apply bx
theorem CQ (l_8:List ac)(s_9:ac)(x:Int):sS l_8 s_9 x=kO l_8 s_9 (sS l_8 s_9) x:=bA (yt l_8 s_9) x
def vJ (l_8:List ac)(s_9:ac):Option (List ac):=
 bn (ρ:=(List ac)) (sS l_8 s_9 0) fun u6:ac×Int×(List ac)=>bn (ρ:=(List ac)) (bif (decide (u6.2.1<(len u6.2.2))) then ((aM u6.2.2 u6.2.1).bind fun e15=>some (.inr (e15==u6.1))) else (some (.inr false))) fun u7:Bool=>bif u7 then (some u6.2.2) else ((gD u6.2.2.length 0 u6.2.1).bind fun s8=>(gi u6.2.2 (0+Int.toNat (0)) (Int.toNat u6.2.1 - Int.toNat (0))).bind fun p9=>(fA 16 ([]:List ac) p9).bind fun a10=>(fA 16 a10 [u6.1]).bind fun a11=>(gD u6.2.2.length u6.2.1 (len u6.2.2)).bind fun s12=>(gi u6.2.2 (0+Int.toNat u6.2.1) (Int.toNat (len u6.2.2) - Int.toNat u6.2.1)).bind fun p13=>(fA 16 a11 p13).bind fun a14=>some a14)
def iK (cf:((List ac)×Condition)→Option (List ac))(l_4:List ac)(c_5:Condition)(self:(Int×(List ac))→Option ((List ac)⊕(List ac)))(x4:Int×(List ac)):Option ((List ac)⊕(List ac)):=
 bif (decide (x4.1<(len c_5.Parts))) then ((aM c_5.Parts x4.1).bind fun e5=>(cf (x4.2,e5)).bind fun r6=>self ((aj (x4.1+1)),r6)) else (some (.inr x4.2))
def ji (cf:((List ac)×Condition)→Option (List ac))(l_4:List ac)(c_5:Condition): (Int×(List ac))→Option ((List ac)⊕(List ac)):=aA (iK cf l_4 c_5)
theorem yq (cf:((List ac)×Condition)→Option (List ac))(l_4:List ac)(c_5:Condition): ∀a,Fin1 fun f=>iK cf l_4 c_5 f a:=by
 unfold iK
 repeat first|intro _|exact aJ|exact bu|apply bw|apply aY|apply aZ|apply bh|apply bx
theorem pJ (cf:((List ac)×Condition)→Option (List ac))(l_4:List ac)(c_5:Condition)(x:Int×(List ac)):ji cf l_4 c_5 x=iK cf l_4 c_5 (ji cf l_4 c_5) x:=bA (yq cf l_4 c_5) x
def sQ (cf:((List ac)×Condition)→Option (List ac))(l_4:List ac)(c_5:Condition):Option (List ac):=
 bif (c_5.Op==2) then ((vJ l_4 c_5.Name).bind fun r3=>some r3) else (bn (ρ:=(List ac)) (ji cf l_4 c_5 (0,l_4)) fun u7:(List ac)=>some u7)
def ir (cf:((List ac)×Condition)→Option (List ac))(x:(List ac)×Condition):Option (List ac):=sQ cf x.1 x.2
def qs (l_4:List ac)(c_5:Condition):Option (List ac):=aA ir (l_4,c_5)
theorem R7:∀x,Fin1 fun cf=>ir cf x:=by
 unfold ir sQ
 repeat first|intro _|exact aJ|exact bu|exact ip|exact jq|exact gv|exact iw|exact gL|exact gM|apply bw|apply aY|apply aZ|apply bh|apply bx|apply nC|unfold ji|unfold iK
theorem LF (l_4:List ac)(c_5:Condition):qs l_4 c_5=sQ (aA ir) l_4 c_5:=bA R7 (l_4,c_5)
def kS (c_1:Contract)(self:(Int×(List ac))→Option ((List ac)⊕(List ac)))(x2:Int×(List ac)):Option ((List ac)⊕(List ac)):=
 bif (decide (x2.1<(len c_1.Clauses))) then ((aM c_1.Clauses x2.1).bind fun e3=>(vJ x2.2 e3.Action).bind fun r4=>(aM c_1.Clauses x2.1).bind fun e5=>(qs r4 e5.When).bind fun r6=>self ((aj (x2.1+1)),r6)) else (some (.inr x2.2))
def mO (c_1:Contract): (Int×(List ac))→Option ((List ac)⊕(List ac)):=aA (kS c_1)
theorem yz (c_1:Contract): ∀a,Fin1 fun f=>kS c_1 f a:=by
 unfold kS
 repeat first|intro _|exact aJ|exact bu|apply bw|apply aY|apply aZ|apply bh|apply bx
theorem Db (c_1:Contract)(x:Int×(List ac)):mO c_1 x=kS c_1 (mO c_1) x:=bA (yz c_1) x
def tS (c_1:Contract):Option (List ac):=
 bn (ρ:=(List ac)) (mO c_1 (0,[])) fun u7:(List ac)=>some u7
def kR (c_1:Contract)(self:Int→Option (Bool⊕Unit))(x4:Int):Option (Bool⊕Unit):=
 bif (decide (x4<(len c_1.Clauses))) then ((aM c_1.Clauses x4).bind fun e5=>(tQ c_1 e5.Id).bind fun r6=>ca (ρ:=Bool) (bif (r6 != x4) then (some (.inr true)) else ((Am c_1 x4).bind fun r8=>some (.inr (!r8)))) fun u7:Bool=>bif u7 then (some (.inl false)) else (self (aj (x4+1)))) else (some (.inr ()))
def lx (c_1:Contract): Int→Option (Bool⊕Unit):=aA (kR c_1)
theorem yy (c_1:Contract): ∀a,Fin1 fun f=>kR c_1 f a:=by
 unfold kR
 repeat first|intro _|exact aJ|exact bu|apply bw|apply aY|apply aZ|apply bh|apply bx
theorem C5 (c_1:Contract)(x:Int):lx c_1 x=kR c_1 (lx c_1) x:=bA (yy c_1) x
def Ao (c_1:Contract):Option Bool:=
 (eQ (len c_1.Clauses) 1 12).bind fun r2=>bn (ρ:=Bool) (bif (!r2) then (some (.inr true)) else ((vU c_1).bind fun r11=>some (.inr (!r11)))) fun u3:Bool=>bif u3 then (some false) else (bn (ρ:=Bool) (lx c_1 0) fun u9:Unit=>(tS c_1).bind fun r10=>some (decide ((len r10)≤16)))
def ER (a_1:Clause)(b_2:Clause):Option Bool:=
 dA (bif (a_1.Party==b_2.Party) then (a_1.Action==b_2.Action) else false) fun u3:Bool=>some u3
def rC (a_1:Condition)(b_2:Condition):Option Bool:=
 (qs [] a_1).bind fun r3=>(qs r3 b_2).bind fun r4=>some (decide ((len r4)≤10))
def kJ (l_8:List Int)(n_9:Int)(self:Int→Option ((List Int)⊕(Int×Int×(List Int))))(x3:Int):Option ((List Int)⊕(Int×Int×(List Int))):=
 ca (ρ:=(List Int)) (bif (decide (x3<(len l_8))) then ((aM l_8 x3).bind fun e5=>some (.inr (decide (e5<n_9)))) else (some (.inr false))) fun u4:Bool=>bif u4 then (self (aj (x3+1))) else (some (.inr (n_9,x3,l_8)))
def sK (l_8:List Int)(n_9:Int): Int→Option ((List Int)⊕(Int×Int×(List Int))):=aA (kJ l_8 n_9)
theorem yh (l_8:List Int)(n_9:Int): ∀a,Fin1 fun f=>kJ l_8 n_9 f a:=by
 unfold kJ
 repeat first|intro _|exact aJ|exact bu|apply bw|apply aY|apply aZ|apply bh|apply bx
theorem Cq (l_8:List Int)(n_9:Int)(x:Int):sK l_8 n_9 x=kJ l_8 n_9 (sK l_8 n_9) x:=bA (yh l_8 n_9) x
def vp (l_8:List Int)(n_9:Int):Option (List Int):=
 bn (ρ:=(List Int)) (sK l_8 n_9 0) fun u6:Int×Int×(List Int)=>bn (ρ:=(List Int)) (bif (decide (u6.2.1<(len u6.2.2))) then ((aM u6.2.2 u6.2.1).bind fun e15=>some (.inr (e15==u6.1))) else (some (.inr false))) fun u7:Bool=>bif u7 then (some u6.2.2) else ((gD u6.2.2.length 0 u6.2.1).bind fun s8=>(gi u6.2.2 (0+Int.toNat (0)) (Int.toNat u6.2.1 - Int.toNat (0))).bind fun p9=>(fA 8 ([]:List Int) p9).bind fun a10=>(fA 8 a10 [u6.1]).bind fun a11=>(gD u6.2.2.length u6.2.1 (len u6.2.2)).bind fun s12=>(gi u6.2.2 (0+Int.toNat u6.2.1) (Int.toNat (len u6.2.2) - Int.toNat u6.2.1)).bind fun p13=>(fA 8 a11 p13).bind fun a14=>some a14)
def iJ (cd:((List Int)×Condition)→Option (List Int))(l_4:List Int)(c_5:Condition)(self:(Int×(List Int))→Option ((List Int)⊕(List Int)))(x4:Int×(List Int)):Option ((List Int)⊕(List Int)):=
 bif (decide (x4.1<(len c_5.Parts))) then ((aM c_5.Parts x4.1).bind fun e5=>(cd (x4.2,e5)).bind fun r6=>self ((aj (x4.1+1)),r6)) else (some (.inr x4.2))
def jd (cd:((List Int)×Condition)→Option (List Int))(l_4:List Int)(c_5:Condition): (Int×(List Int))→Option ((List Int)⊕(List Int)):=aA (iJ cd l_4 c_5)
theorem yi (cd:((List Int)×Condition)→Option (List Int))(l_4:List Int)(c_5:Condition): ∀a,Fin1 fun f=>iJ cd l_4 c_5 f a:=by
 unfold iJ
 repeat first|intro _|exact aJ|exact bu|apply bw|apply aY|apply aZ|apply bh|apply bx
theorem pI (cd:((List Int)×Condition)→Option (List Int))(l_4:List Int)(c_5:Condition)(x:Int×(List Int)):jd cd l_4 c_5 x=iJ cd l_4 c_5 (jd cd l_4 c_5) x:=bA (yi cd l_4 c_5) x
def sL (cd:((List Int)×Condition)→Option (List Int))(l_4:List Int)(c_5:Condition):Option (List Int):=
 bif (c_5.Op==3) then ((vp l_4 c_5.Day).bind fun r3=>some r3) else (bn (ρ:=(List Int)) (jd cd l_4 c_5 (0,l_4)) fun u7:(List Int)=>some u7)
def iq (cd:((List Int)×Condition)→Option (List Int))(x:(List Int)×Condition):Option (List Int):=sL cd x.1 x.2
def vr (l_4:List Int)(c_5:Condition):Option (List Int):=aA iq (l_4,c_5)
theorem RT:∀x,Fin1 fun cd=>iq cd x:=by
 unfold iq sL
 repeat first|intro _|exact aJ|exact bu|exact ip|exact jq|exact gv|exact iw|exact gL|exact gM|apply bw|apply aY|apply aZ|apply bh|apply bx|apply nC|unfold jd|unfold iJ
theorem Lx (l_4:List Int)(c_5:Condition):vr l_4 c_5=sL (aA iq) l_4 c_5:=bA RT (l_4,c_5)
def kQ (dw:List ac)(ef:Int)(self:(Int×(List ac))→Option ((List ac)⊕(List ac)))(x3:Int×(List ac)):Option ((List ac)⊕(List ac)):=
 bif (decide (x3.1<(len dw))) then ((FC .i64 ef (IntKind.u64.wrap x3.1)).bind fun q4=>ca (ρ:=(List ac)) (bif ((Jb .i64 q4 1)==1) then ((aM dw x3.1).bind fun e6=>(fA 16 x3.2 [e6]).bind fun a7=>some (.inr a7)) else (some (.inr x3.2))) fun u5:(List ac)=>self ((aj (x3.1+1)),u5)) else (some (.inr x3.2))
def qf (dw:List ac)(ef:Int): (Int×(List ac))→Option ((List ac)⊕(List ac)):=aA (kQ dw ef)
theorem yw (dw:List ac)(ef:Int): ∀a,Fin1 fun f=>kQ dw ef f a:=by
 unfold kQ
 repeat first|intro _|exact aJ|exact bu|apply bw|apply aY|apply aZ|apply bh|apply bx
theorem CX (dw:List ac)(ef:Int)(x:Int×(List ac)):qf dw ef x=kQ dw ef (qf dw ef) x:=bA (yw dw ef) x
def rF (dw:List ac)(ef:Int):Option (List ac):=
 bn (ρ:=(List ac)) (qf dw ef (0,[])) fun u8:(List ac)=>some u8
def sN (cl:(Condition×(List ac)×Int)→Option Bool)(c_1:Condition)(bi:List ac)(bV:Int):Option Bool:=
 bif (c_1.Op==1) then (some true) else (bif (c_1.Op==2) then ((rD bi c_1.Name).bind fun r4=>some r4) else (bif (c_1.Op==3) then (some (decide (bV≥c_1.Day))) else (bif (c_1.Op==4) then ((aM c_1.Parts 0).bind fun e5=>(cl (e5,bi,bV)).bind fun r6=>some (!r6)) else (bif (c_1.Op==5) then ((aM c_1.Parts 0).bind fun e7=>(cl (e7,bi,bV)).bind fun r8=>bn (ρ:=Bool) (bif r8 then ((aM c_1.Parts 1).bind fun e10=>(cl (e10,bi,bV)).bind fun r11=>some (.inr r11)) else (some (.inr false))) fun u9:Bool=>some u9) else ((aM c_1.Parts 0).bind fun e12=>(cl (e12,bi,bV)).bind fun r13=>bn (ρ:=Bool) (bif r13 then (some (.inr true)) else ((aM c_1.Parts 1).bind fun e15=>(cl (e15,bi,bV)).bind fun r16=>some (.inr r16))) fun u14:Bool=>some u14)))))
def jg (cl:(Condition×(List ac)×Int)→Option Bool)(x:Condition×(List ac)×Int):Option Bool:=sN cl x.1 x.2.1 x.2.2
def tN (c_1:Condition)(bi:List ac)(bV:Int):Option Bool:=aA jg (c_1,bi,bV)
theorem R3:∀x,Fin1 fun cl=>jg cl x:=by
 unfold jg sN
 repeat first|intro _|exact aJ|exact bu|apply bw|apply aY|apply aZ|apply bh|apply bx
theorem LD (c_1:Condition)(bi:List ac)(bV:Int):tN c_1 bi bV=sN (aA jg) c_1 bi bV:=bA R3 (c_1,bi,bV)
def kN (a_1:Condition)(b_2:Condition)(r7:(List Int))(r10:(List ac))(r4:(List ac))(x8:Int)(self:Int→Option (Bool⊕Unit))(x11:Int):Option (Bool⊕Unit):=
 bif (decide (x11<(len r7))) then ((aM r7 x11).bind fun e12=>(tN a_1 r10 e12).bind fun r13=>ca (ρ:=Bool) (bif r13 then ((aM r7 x11).bind fun e15=>(tN b_2 r10 e15).bind fun r16=>some (.inr (!r16))) else (some (.inr false))) fun u14:Bool=>bif u14 then (some (.inl false)) else (self (aj (x11+1)))) else (some (.inr ()))
def mI (a_1:Condition)(b_2:Condition)(r7:(List Int))(r10:(List ac))(r4:(List ac))(x8:Int):Int→Option (Bool⊕Unit):=aA (kN a_1 b_2 r7 r10 r4 x8)
theorem yo (a_1:Condition)(b_2:Condition)(r7:(List Int))(r10:(List ac))(r4:(List ac))(x8:Int):∀a,Fin1 fun f=>kN a_1 b_2 r7 r10 r4 x8 f a:=by
 unfold kN
 repeat first|intro _|exact aJ|exact bu|apply bw|apply aY|apply aZ|apply bh|apply bx
theorem CL (a_1:Condition)(b_2:Condition)(r7:(List Int))(r10:(List ac))(r4:(List ac))(x8:Int)(x:Int):mI a_1 b_2 r7 r10 r4 x8 x=kN a_1 b_2 r7 r10 r4 x8 (mI a_1 b_2 r7 r10 r4 x8) x:=bA (yo a_1 b_2 r7 r10 r4 x8) x
def kM (a_1:Condition)(b_2:Condition)(r4:(List ac))(r7:(List Int))(self:Int→Option (Bool⊕Unit))(x8:Int):Option (Bool⊕Unit):=
 (A5 .i64 1 (IntKind.u64.wrap (len r4))).bind fun q9=>bif (decide (x8<q9)) then ((rF r4 x8).bind fun r10=>ca (ρ:=Bool) (mI a_1 b_2 r7 r10 r4 x8 0) fun u17:Unit=>self (aj (x8+1))) else (some (.inr ()))
def mH (a_1:Condition)(b_2:Condition)(r4:(List ac))(r7:(List Int)):Int→Option (Bool⊕Unit):=aA (kM a_1 b_2 r4 r7)
theorem ym (a_1:Condition)(b_2:Condition)(r4:(List ac))(r7:(List Int)):∀a,Fin1 fun f=>kM a_1 b_2 r4 r7 f a:=by
 unfold kM
 repeat first|intro _|exact aJ|exact bu|apply bw|apply aY|apply aZ|apply bh|apply bx
theorem CK (a_1:Condition)(b_2:Condition)(r4:(List ac))(r7:(List Int))(x:Int):mH a_1 b_2 r4 r7 x=kM a_1 b_2 r4 r7 (mH a_1 b_2 r4 r7) x:=bA (ym a_1 b_2 r4 r7) x
def EU (a_1:Condition)(b_2:Condition):Option Bool:=
 (qs [] a_1).bind fun r3=>(qs r3 b_2).bind fun r4=>(vr [] a_1).bind fun r5=>(vr r5 b_2).bind fun r6=>(vp r6 0).bind fun r7=>bn (ρ:=Bool) (mH a_1 b_2 r4 r7 0) fun u18:Unit=>some true
def tK (a_1:Condition)(b_2:Condition):Option Bool:=
 (EU a_1 (Condition.mk 4 [] 0 [b_2])).bind fun r3=>some (!r3)
def iI (c_1:Contract)(x3:Int×(List ArrInt2))(self:(Int×(List ArrInt2))→Option (((List ArrInt2)×Bool)⊕(List ArrInt2)))(x4:Int×(List ArrInt2)):Option (((List ArrInt2)×Bool)⊕(List ArrInt2)):=
 bif (decide (x4.1<(len c_1.Clauses))) then ((aM c_1.Clauses x3.1).bind fun e5=>(aM c_1.Clauses x4.1).bind fun e6=>ca (ρ:=(List ArrInt2)×Bool) (bif (e5.Kind != 1) then (some (.inr true)) else (ca (ρ:=(List ArrInt2)×Bool) (bif (e6.Kind != 2) then (some (.inr true)) else ((ER e5 e6).bind fun r13=>some (.inr (!r13)))) fun u12:Bool=>some (.inr u12))) fun u7:Bool=>bif u7 then (self ((aj (x4.1+1)),x4.2)) else ((rC e5.When e6.When).bind fun r8=>bif (!r8) then (some (.inl ([],false))) else ((tK e5.When e6.When).bind fun r9=>ca (ρ:=(List ArrInt2)×Bool) (bif r9 then ((fA 16 x4.2 [(ArrInt2.mk x3.1 x4.1)]).bind fun a11=>some (.inr a11)) else (some (.inr x4.2))) fun u10:(List ArrInt2)=>self ((aj (x4.1+1)),u10)))) else (some (.inr x4.2))
def lu (c_1:Contract)(x3:Int×(List ArrInt2)):(Int×(List ArrInt2))→Option (((List ArrInt2)×Bool)⊕(List ArrInt2)):=aA (iI c_1 x3)
theorem yg (c_1:Contract)(x3:Int×(List ArrInt2)):∀a,Fin1 fun f=>iI c_1 x3 f a:=by
 unfold iI
 repeat first|intro _|exact aJ|exact bu|apply bw|apply aY|apply aZ|apply bh|apply bx
theorem pH (c_1:Contract)(x3:Int×(List ArrInt2))(x:Int×(List ArrInt2)):lu c_1 x3 x=iI c_1 x3 (lu c_1 x3) x:=bA (yg c_1 x3) x
def kI (c_1:Contract)(self:(Int×(List ArrInt2))→Option (((List ArrInt2)×Bool)⊕(List ArrInt2)))(x3:Int×(List ArrInt2)):Option (((List ArrInt2)×Bool)⊕(List ArrInt2)):=
 bif (decide (x3.1<(len c_1.Clauses))) then (ca (ρ:=(List ArrInt2)×Bool) (lu c_1 x3 (0,x3.2)) fun u14:(List ArrInt2)=>self ((aj (x3.1+1)),u14)) else (some (.inr x3.2))
def qb (c_1:Contract): (Int×(List ArrInt2))→Option (((List ArrInt2)×Bool)⊕(List ArrInt2)):=aA (kI c_1)
theorem yf (c_1:Contract): ∀a,Fin1 fun f=>kI c_1 f a:=by
 unfold kI
 repeat first|intro _|exact aJ|exact bu|apply bw|apply aY|apply aZ|apply bh|apply bx
theorem Cg (c_1:Contract)(x:Int×(List ArrInt2)):qb c_1 x=kI c_1 (qb c_1) x:=bA (yf c_1) x
def zT (c_1:Contract):Option ((List ArrInt2)×Bool):=
 (Ao c_1).bind fun r2=>bif (!r2) then (some ([],false)) else (bn (ρ:=(List ArrInt2)×Bool) (qb c_1 (0,[])) fun u15:(List ArrInt2)=>some (u15,true))
def nU (n_1:Int)(nH:Int)(lc:Int):Option Bool:=
 dA (bif (decide (n_1≥nH)) then (decide (n_1≤lc)) else false) fun u4:Bool=>some u4
def PY (s_1:ac)(c_2:Int):Option Int:=
 (qT s_1 c_2).bind fun r3=>some r3
def PX (s_1:ac)(aP:ac):Option Int:=
 dA (bif ((len aP)==0) then true else (aP==s_1)) fun u3:Bool=>bif u3 then (some 0) else (bif ((len aP)==1) then ((aM aP 0).bind fun c4=>(PY s_1 (c4.toNat:Int)).bind fun r5=>some r5) else (bif (decide ((len aP)≥(len s_1))) then (some (-1)) else none))
def EX (s_1:ac)(aP:ac):Option Int:=
 (PX s_1 aP).bind fun r3=>some r3
def qY (s_1:ac)(aP:ac)(self:(ac×Int)→Option (Int⊕Unit))(x5:ac×Int):Option (Int⊕Unit):=
 (EX x5.1 aP).bind fun r6=>bif (r6==(-1)) then (some (.inl x5.2)) else ((qS x5.1 (aj (r6+(len aP))) (len x5.1)).bind fun s7=>self (s7,(aj (x5.2+1))))
def LH (s_1:ac)(aP:ac): (ac×Int)→Option (Int⊕Unit):=aA (qY s_1 aP)
theorem KZ (s_1:ac)(aP:ac): ∀a,Fin1 fun f=>qY s_1 aP f a:=by
 unfold qY
 repeat first|intro _|exact aJ|exact bu|apply bw|apply aY|apply aZ|apply bh|apply bx
def IL (s_1:ac)(aP:ac):Option Int:=
 bif ((len aP)==0) then none else (bif ((len aP)==1) then ((aM aP 0).bind fun c3=>(wM s_1 (c3.toNat:Int)).bind fun r4=>some r4) else (bn (ρ:=Int) (LH s_1 aP (s_1,0)) fun u8:Unit=>none))
def qZ (s_1:ac)(dN:ac)(dm:Int)(n_4:Int)(u5:Int)(self:(ac×Int×(List ac))→Option ((List ac)⊕(ac×Int×(List ac))))(x7:ac×Int×(List ac)):Option ((List ac)⊕(ac×Int×(List ac))):=
 bif (decide (x7.2.1<(aj ((if (aj ((len s_1)+1))<u5 then (aj ((len s_1)+1)) else u5) - 1)))) then ((EX x7.1 dN).bind fun r8=>bif (decide (r8<0)) then (some (.inr (x7.1,x7.2.1,x7.2.2))) else ((qS x7.1 0 (aj (r8+dm))).bind fun s9=>(aM x7.2.2 x7.2.1).bind fun e10=>(qS x7.1 (aj (r8+(len dN))) (len x7.1)).bind fun s11=>self (s11,(aj (x7.2.1+1)),(cS x7.2.2 x7.2.1 s9)))) else (some (.inr (x7.1,x7.2.1,x7.2.2)))
def wX (s_1:ac)(dN:ac)(dm:Int)(n_4:Int)(u5:Int):(ac×Int×(List ac))→Option ((List ac)⊕(ac×Int×(List ac))):=aA (qZ s_1 dN dm n_4 u5)
theorem yB (s_1:ac)(dN:ac)(dm:Int)(n_4:Int)(u5:Int):∀a,Fin1 fun f=>qZ s_1 dN dm n_4 u5 f a:=by
 unfold qZ
 repeat first|intro _|exact aJ|exact bu|apply bw|apply aY|apply aZ|apply bh|apply bx
def IO (s_1:ac)(dN:ac)(dm:Int)(n_4:Int):Option (List ac):=
 bif (n_4==0) then (some []) else (bif (dN==([]:ac)) then none else (bn (ρ:=(List ac)) (bif (decide (n_4<0)) then ((IL s_1 dN).bind fun r16=>some (.inr (aj (r16+1)))) else (some (.inr n_4))) fun u5:Int=>(uR 16 [] (if (aj ((len s_1)+1))<u5 then (aj ((len s_1)+1)) else u5)).bind fun m6=>bn (ρ:=(List ac)) (wX s_1 dN dm n_4 u5 (s_1,0,m6)) fun u12:ac×Int×(List ac)=>(aM u12.2.2 u12.2.1).bind fun e13=>(gD (cS u12.2.2 u12.2.1 u12.1).length 0 (aj (u12.2.1+1))).bind fun s14=>(gi (cS u12.2.2 u12.2.1 u12.1) (0+Int.toNat (0)) (Int.toNat (aj (u12.2.1+1)) - Int.toNat (0))).bind fun p15=>some p15))
def Aw (s_1:ac)(dN:ac):Option (List ac):=
 (IO s_1 dN 0 (-1)).bind fun r3=>some r3
def jG (s_1:List ac)(v_2:ac)(self:Int→Option (Int⊕Unit))(x3:Int):Option (Int⊕Unit):=
 bif (decide (x3<(len s_1))) then ((aM s_1 x3).bind fun e4=>bif (v_2==e4) then (some (.inl x3)) else (self (aj (x3+1)))) else (some (.inr ()))
def oh (s_1:List ac)(v_2:ac): Int→Option (Int⊕Unit):=aA (jG s_1 v_2)
theorem ye (s_1:List ac)(v_2:ac): ∀a,Fin1 fun f=>jG s_1 v_2 f a:=by
 unfold jG
 repeat first|intro _|exact aJ|exact bu|apply bw|apply aY|apply aZ|apply bh|apply bx
theorem tJ (s_1:List ac)(v_2:ac)(x:Int):oh s_1 v_2 x=jG s_1 v_2 (oh s_1 v_2) x:=bA (ye s_1 v_2) x
def vo (s_1:List ac)(v_2:ac):Option Int:=
 bn (ρ:=Int) (oh s_1 v_2 0) fun u5:Unit=>some (-1)
def oe (s_1:List ac)(v_2:ac):Option Bool:=
 (vo s_1 v_2).bind fun r3=>some (decide (r3≥0))
def om (s_1:ac)(self:Int→Option (Bool⊕Unit))(x4:Int):Option (Bool⊕Unit):=
 bif (decide (x4<(len s_1))) then ((aM s_1 x4).bind fun c5=>dA (bif (decide ((c5.toNat:Int)<97)) then (dA (bif (decide ((c5.toNat:Int)<48)) then true else (decide ((c5.toNat:Int)>57))) fun u7:Bool=>u7) else (dA (bif (decide ((c5.toNat:Int)>122)) then (dA (bif (decide ((c5.toNat:Int)<48)) then true else (decide ((c5.toNat:Int)>57))) fun u9:Bool=>u9) else false) fun u8:Bool=>u8)) fun u6:Bool=>bif u6 then (some (.inl false)) else (self (aj (x4+1)))) else (some (.inr ()))
def vT (s_1:ac): Int→Option (Bool⊕Unit):=aA (om s_1)
theorem C8 (s_1:ac): ∀a,Fin1 fun f=>om s_1 f a:=by
 unfold om
 repeat first|intro _|exact aJ|exact bu|apply bw|apply aY|apply aZ|apply bh|apply bx
theorem PF (s_1:ac)(x:Int):vT s_1 x=om s_1 (vT s_1) x:=bA (C8 s_1) x
def vS (s_1:ac):Option Bool:=
 (nU (len s_1) 1 8).bind fun r2=>bn (ρ:=Bool) (bif (!r2) then (some (.inr true)) else ((aM s_1 0).bind fun c13=>ca (ρ:=Bool) (bif (decide ((c13.toNat:Int)<97)) then (some (.inr true)) else ((aM s_1 0).bind fun c15=>some (.inr (decide ((c15.toNat:Int)>122))))) fun u14:Bool=>some (.inr u14))) fun u3:Bool=>bif u3 then (some false) else (bn (ρ:=Bool) (vT s_1 0) fun u10:Unit=>(Aw ([116,114,117,101,32,102,114,111,109,32,110,111,116,32,97,110,100,32,111,114,32,98,111,116,104,32,101,105,116,104,101,114,32,105,116,32,105,110]:ac) ([32]:ac)).bind fun r11=>(oe r11 s_1).bind fun r12=>some (!r12))
def md (bo:List ac)(self:Int→Option (Bool⊕Unit))(x2:Int):Option (Bool⊕Unit):=
 bif (decide (x2<(len bo))) then ((aM bo x2).bind fun e3=>(vS e3).bind fun r4=>ca (ρ:=Bool) (bif (!r4) then (some (.inr true)) else ((qS bo 0 x2).bind fun s6=>(oe s6 e3).bind fun r7=>some (.inr r7))) fun u5:Bool=>bif u5 then (some (.inl false)) else (self (aj (x2+1)))) else (some (.inr ()))
def vX (bo:List ac): Int→Option (Bool⊕Unit):=aA (md bo)
theorem Dz (bo:List ac): ∀a,Fin1 fun f=>md bo f a:=by
 unfold md
 repeat first|intro _|exact aJ|exact bu|apply bw|apply aY|apply aZ|apply bh|apply bx
theorem FV (bo:List ac)(x:Int):vX bo x=md bo (vX bo) x:=bA (Dz bo) x
def IT (bo:List ac):Option Bool:=
 bn (ρ:=Bool) (vX bo 0) fun u8:Unit=>(nU (len bo) 2 4).bind fun r9=>some r9
def PU (x_1:Clause)(a_2:ac):Option Bool:=
 some (x_1.Id==a_2)
def mG (s_1:List Clause)(f_2:ac)(self:Int→Option (Int⊕Unit))(x3:Int):Option (Int⊕Unit):=
 bif (decide (x3<(len s_1))) then ((aM s_1 x3).bind fun e4=>(PU e4 f_2).bind fun r5=>bif r5 then (some (.inl x3)) else (self (aj (x3+1)))) else (some (.inr ()))
def sG (s_1:List Clause)(f_2:ac): Int→Option (Int⊕Unit):=aA (mG s_1 f_2)
theorem yd (s_1:List Clause)(f_2:ac): ∀a,Fin1 fun f=>mG s_1 f_2 f a:=by
 unfold mG
 repeat first|intro _|exact aJ|exact bu|apply bw|apply aY|apply aZ|apply bh|apply bx
theorem Mu (s_1:List Clause)(f_2:ac)(x:Int):sG s_1 f_2 x=mG s_1 f_2 (sG s_1 f_2) x:=bA (yd s_1 f_2) x
def EP (s_1:List Clause)(f_2:ac):Option Int:=
 bn (ρ:=Int) (sG s_1 f_2 0) fun u6:Unit=>some (-1)
def DA (c_1:Contract)(eK:ac):Option Int:=
 (EP c_1.Clauses eK).bind fun r3=>some r3
def te (gE:Int):Option Bool:=
 (nU gE 0 36524).bind fun r2=>some r2
def kW (aN:(Condition×Int)→Option Int)(c_1:Condition)(co:Int)(self:(Int×Int)→Option (Int⊕Int))(x5:Int×Int):Option (Int⊕Int):=
 bif (decide (x5.2<(len c_1.Parts))) then ((aM c_1.Parts x5.2).bind fun e6=>(aN (e6,x5.1)).bind fun r7=>bif (decide (r7<0)) then (some (.inl (-1))) else (self (r7,(aj (x5.2+1))))) else (some (.inr x5.1))
def lR (aN:(Condition×Int)→Option Int)(c_1:Condition)(co:Int): (Int×Int)→Option (Int⊕Int):=aA (kW aN c_1 co)
theorem DE (aN:(Condition×Int)→Option Int)(c_1:Condition)(co:Int): ∀a,Fin1 fun f=>kW aN c_1 co f a:=by
 unfold kW
 repeat first|intro _|exact aJ|exact bu|apply bw|apply aY|apply aZ|apply bh|apply bx
theorem FX (aN:(Condition×Int)→Option Int)(c_1:Condition)(co:Int)(x:Int×Int):lR aN c_1 co x=kW aN c_1 co (lR aN c_1 co) x:=bA (DE aN c_1 co) x
def xb (aN:(Condition×Int)→Option Int)(c_1:Condition)(co:Int):Option Int:=
 bn (ρ:=Int) (bif (decide ((aj (co+1))>15)) then (some (.inr true)) else ((nU c_1.Op 1 6).bind fun r20=>ca (ρ:=Int) (bif (!r20) then (some (.inr true)) else ((aM [(-1),0,0,0,1,2,2] c_1.Op).bind fun e22=>some (.inr ((len c_1.Parts) != e22)))) fun u21:Bool=>some (.inr u21))) fun u3:Bool=>bif u3 then (some (-1)) else (bn (ρ:=Int) (bif (!((c_1.Op==2)==(!(c_1.Name==([]:ac))))) then (some (.inr true)) else (ca (ρ:=Int) (bif (c_1.Op==2) then ((vS c_1.Name).bind fun r10=>ca (ρ:=Int) (bif (!r10) then (some (.inr true)) else (ca (ρ:=Int) (bif (c_1.Op != 3) then (ca (ρ:=Int) (bif (c_1.Day != 0) then (some (.inr true)) else ((te c_1.Day).bind fun r14=>some (.inr (!r14)))) fun u13:Bool=>some (.inr u13)) else ((te c_1.Day).bind fun r15=>some (.inr (!r15)))) fun u12:Bool=>some (.inr u12))) fun u11:Bool=>some (.inr u11)) else (ca (ρ:=Int) (bif (c_1.Op != 3) then (ca (ρ:=Int) (bif (c_1.Day != 0) then (some (.inr true)) else ((te c_1.Day).bind fun r18=>some (.inr (!r18)))) fun u17:Bool=>some (.inr u17)) else ((te c_1.Day).bind fun r19=>some (.inr (!r19)))) fun u16:Bool=>some (.inr u16))) fun u9:Bool=>some (.inr u9))) fun u4:Bool=>bif u4 then (some (-1)) else (bn (ρ:=Int) (lR aN c_1 co ((aj (co+1)),0)) fun u8:Int=>some u8))
def lZ (aN:(Condition×Int)→Option Int)(x:Condition×Int):Option Int:=xb aN x.1 x.2
def PV (c_1:Condition)(co:Int):Option Int:=aA lZ (c_1,co)
theorem UD:∀x,Fin1 fun aN=>lZ aN x:=by
 unfold lZ xb
 repeat first|intro _|exact aJ|exact bu|exact ip|exact jq|exact gv|exact iw|exact gL|exact gM|apply bw|apply aY|apply aZ|apply bh|apply bx|apply nC|unfold lR|unfold kW
theorem WQ (c_1:Condition)(co:Int):PV c_1 co=xb (aA lZ) c_1 co:=bA UD (c_1,co)
def HV (c_1:Condition):Option Bool:=
 (PV c_1 0).bind fun r2=>some (decide (r2>0))
def IW (c_1:Contract)(i_2:Int):Option Bool:=
 (aM c_1.Clauses i_2).bind fun e3=>(vS e3.Id).bind fun r4=>bn (ρ:=Bool) (bif (!r4) then (some (.inr true)) else ((DA c_1 e3.Id).bind fun r23=>ca (ρ:=Bool) (bif (r23 != i_2) then (some (.inr true)) else ((vS e3.Action).bind fun r25=>ca (ρ:=Bool) (bif (!r25) then (some (.inr true)) else ((nU e3.Kind 1 4).bind fun r27=>some (.inr (!r27)))) fun u26:Bool=>some (.inr u26))) fun u24:Bool=>some (.inr u24))) fun u5:Bool=>bif u5 then (some false) else ((nU e3.Party 0 (aj ((len c_1.Parties) - 1))).bind fun r6=>bn (ρ:=Bool) (bif (!r6) then (some (.inr true)) else ((nU e3.Other 0 (aj ((len c_1.Parties) - 1))).bind fun r19=>ca (ρ:=Bool) (bif (!r19) then (some (.inr true)) else (ca (ρ:=Bool) (bif (e3.Party==e3.Other) then (some (.inr true)) else ((HV e3.When).bind fun r22=>some (.inr (!r22)))) fun u21:Bool=>some (.inr u21))) fun u20:Bool=>some (.inr u20))) fun u7:Bool=>bif u7 then (some false) else ((nU e3.Amount 0 1000000).bind fun r8=>bn (ρ:=Bool) (bif (!r8) then (some (.inr true)) else ((nU e3.Within 0 400).bind fun r15=>dA (bif (!r15) then true else (dA (bif (e3.Kind != 1) then (dA (bif (e3.Amount != 0) then true else (e3.Within != 0)) fun u18:Bool=>u18) else false) fun u17:Bool=>u17)) fun u16:Bool=>some (.inr u16))) fun u9:Bool=>bif u9 then (some false) else (bif (e3.Repair==([]:ac)) then (some true) else ((DA c_1 e3.Repair).bind fun r10=>bn (ρ:=Bool) (bif (e3.Kind != 3) then (ca (ρ:=Bool) (bif (decide (r10≥0)) then (ca (ρ:=Bool) (bif (r10 != i_2) then ((aM c_1.Clauses r10).bind fun e14=>some (.inr (e14.Kind==1))) else (some (.inr false))) fun u13:Bool=>some (.inr u13)) else (some (.inr false))) fun u12:Bool=>some (.inr u12)) else (some (.inr false))) fun u11:Bool=>some u11))))
def kV (cn:(Condition×(List ac))→Option (List ac))(c_3:Condition)(bg:List ac)(self:(Int×(List ac))→Option ((List ac)⊕(List ac)))(x4:Int×(List ac)):Option ((List ac)⊕(List ac)):=
 bif (decide (x4.1<(len c_3.Parts))) then ((aM c_3.Parts x4.1).bind fun e5=>(cn (e5,x4.2)).bind fun r6=>self ((aj (x4.1+1)),r6)) else (some (.inr x4.2))
def nk (cn:(Condition×(List ac))→Option (List ac))(c_3:Condition)(bg:List ac): (Int×(List ac))→Option ((List ac)⊕(List ac)):=aA (kV cn c_3 bg)
theorem Dx (cn:(Condition×(List ac))→Option (List ac))(c_3:Condition)(bg:List ac): ∀a,Fin1 fun f=>kV cn c_3 bg f a:=by
 unfold kV
 repeat first|intro _|exact aJ|exact bu|apply bw|apply aY|apply aZ|apply bh|apply bx
theorem FU (cn:(Condition×(List ac))→Option (List ac))(c_3:Condition)(bg:List ac)(x:Int×(List ac)):nk cn c_3 bg x=kV cn c_3 bg (nk cn c_3 bg) x:=bA (Dx cn c_3 bg) x
def wZ (cn:(Condition×(List ac))→Option (List ac))(c_3:Condition)(bg:List ac):Option (List ac):=
 bn (ρ:=(List ac)) (bif (c_3.Op==2) then ((fA 16 bg [c_3.Name]).bind fun a8=>some (.inr a8)) else (some (.inr bg))) fun u3:(List ac)=>bn (ρ:=(List ac)) (nk cn c_3 bg (0,u3)) fun u7:(List ac)=>some u7
def nj (cn:(Condition×(List ac))→Option (List ac))(x:Condition×(List ac)):Option (List ac):=wZ cn x.1 x.2
def IQ (c_3:Condition)(bg:List ac):Option (List ac):=aA nj (c_3,bg)
theorem Ux:∀x,Fin1 fun cn=>nj cn x:=by
 unfold nj wZ
 repeat first|intro _|exact aJ|exact bu|exact ip|exact jq|exact gv|exact iw|exact gL|exact gM|apply bw|apply aY|apply aZ|apply bh|apply bx|apply nC|unfold nk|unfold kV
theorem WP (c_3:Condition)(bg:List ac):IQ c_3 bg=wZ (aA nj) c_3 bg:=bA Ux (c_3,bg)
def kH (s_2:List ac)(x2:Int)(self:(Int×Int×(List ac))→Option ((List ac)⊕(Int×(List ac))))(x6:Int×Int×(List ac)):Option ((List ac)⊕(Int×(List ac))):=
 bif (decide (x6.2.1<(((Int.toNat (len s_2) - Int.toNat x2):Nat):Int))) then ((ui x6.2.2 (0+Int.toNat x2) (Int.toNat (len s_2) - Int.toNat x2) x6.2.1).bind fun e7=>(ui x6.2.2 (0+Int.toNat x2) (Int.toNat (len s_2) - Int.toNat x2) (aj (x6.2.1 - 1))).bind fun e8=>ca (ρ:=(List ac)) (bif (!(e7==e8)) then ((ui x6.2.2 (0+Int.toNat x2) (Int.toNat (len s_2) - Int.toNat x2) x6.2.1).bind fun e10=>(aM x6.2.2 x6.1).bind fun e11=>some (.inr ((aj (x6.1+1)),(cS x6.2.2 x6.1 e10)))) else (some (.inr (x6.1,x6.2.2)))) fun u9:Int×(List ac)=>self (u9.1,(aj (x6.2.1+1)),u9.2)) else (some (.inr (x6.1,x6.2.2)))
def ke (s_2:List ac)(x2:Int):(Int×Int×(List ac))→Option ((List ac)⊕(Int×(List ac))):=aA (kH s_2 x2)
theorem yb (s_2:List ac)(x2:Int):∀a,Fin1 fun f=>kH s_2 x2 f a:=by
 unfold kH
 repeat first|intro _|exact aJ|exact bu|apply bw|apply aY|apply aZ|apply bh|apply bx
theorem B7 (s_2:List ac)(x2:Int)(x:Int×Int×(List ac)):ke s_2 x2 x=kH s_2 x2 (ke s_2 x2) x:=bA (yb s_2 x2) x
def kG (s_2:List ac)(self:Int→Option ((List ac)⊕(List ac)))(x2:Int):Option ((List ac)⊕(List ac)):=
 bif (decide (x2<(len s_2))) then ((aM s_2 x2).bind fun e3=>(aM s_2 (aj (x2 - 1))).bind fun e4=>bif (e3==e4) then ((gD s_2.length x2 (len s_2)).bind fun s5=>ca (ρ:=(List ac)) (ke s_2 x2 (x2,1,s_2)) fun u15:Int×(List ac)=>(gD u15.2.length u15.1 (len u15.2)).bind fun s16=>(wm u15.2 (0+Int.toNat u15.1) (Int.toNat (len u15.2) - Int.toNat u15.1) []).bind fun k17=>(gD k17.length 0 u15.1).bind fun s18=>(gi k17 (0+Int.toNat (0)) (Int.toNat u15.1 - Int.toNat (0))).bind fun p19=>some (.inl p19)) else (self (aj (x2+1)))) else (some (.inr s_2))
def qa (s_2:List ac): Int→Option ((List ac)⊕(List ac)):=aA (kG s_2)
theorem xZ (s_2:List ac): ∀a,Fin1 fun f=>kG s_2 f a:=by
 unfold kG
 repeat first|intro _|exact aJ|exact bu|apply bw|apply aY|apply aZ|apply bh|apply bx
theorem B6 (s_2:List ac)(x:Int):qa s_2 x=kG s_2 (qa s_2) x:=bA (xZ s_2) x
def zP (s_2:List ac):Option (List ac):=
 bif (decide ((len s_2)<2)) then (some s_2) else (bn (ρ:=(List ac)) (qa s_2 1) fun u20:(List ac)=>some u20)
def DK (ju:List ac):Option (List ac):=
 (tD ju).bind fun r2=>bif Nat.beq r2.length ju.length then ((zP r2).bind fun r4=>some r4) else none
def mf (c_1:Contract)(self:(Int×(List ac))→Option ((List ac)⊕(List ac)))(x2:Int×(List ac)):Option ((List ac)⊕(List ac)):=
 bif (decide (x2.1<(len c_1.Clauses))) then ((aM c_1.Clauses x2.1).bind fun e3=>(fA 16 x2.2 [e3.Action]).bind fun a4=>(IQ e3.When a4).bind fun r5=>self ((aj (x2.1+1)),r5)) else (some (.inr x2.2))
def o8 (c_1:Contract): (Int×(List ac))→Option ((List ac)⊕(List ac)):=aA (mf c_1)
theorem DI (c_1:Contract): ∀a,Fin1 fun f=>mf c_1 f a:=by
 unfold mf
 repeat first|intro _|exact aJ|exact bu|apply bw|apply aY|apply aZ|apply bh|apply bx
theorem FZ (c_1:Contract)(x:Int×(List ac)):o8 c_1 x=mf c_1 (o8 c_1) x:=bA (DI c_1) x
def IV (c_1:Contract):Option (List ac):=
 bn (ρ:=(List ac)) (o8 c_1 (0,[])) fun u6:(List ac)=>(DK u6).bind fun r7=>some r7
def mb (c_1:Contract)(self:Int→Option (Bool⊕Unit))(x4:Int):Option (Bool⊕Unit):=
 bif (decide (x4<(len c_1.Clauses))) then ((IW c_1 x4).bind fun r5=>bif (!r5) then (some (.inl false)) else (self (aj (x4+1)))) else (some (.inr ()))
def ne (c_1:Contract): Int→Option (Bool⊕Unit):=aA (mb c_1)
theorem B2 (c_1:Contract): ∀a,Fin1 fun f=>mb c_1 f a:=by
 unfold mb
 repeat first|intro _|exact aJ|exact bu|apply bw|apply aY|apply aZ|apply bh|apply bx
theorem FN (c_1:Contract)(x:Int):ne c_1 x=mb c_1 (ne c_1) x:=bA (B2 c_1) x
def Ij (c_1:Contract):Option Bool:=
 (IT c_1.Parties).bind fun r2=>bn (ρ:=Bool) (bif (!r2) then (some (.inr true)) else ((nU (len c_1.Clauses) 1 12).bind fun r8=>some (.inr (!r8)))) fun u3:Bool=>bif u3 then (some false) else (bn (ρ:=Bool) (ne c_1 0) fun u6:Unit=>(IV c_1).bind fun r7=>some (decide ((len r7)≤16)))
def LK (i_1:Int)(a_2:Contract)(a_3:Int)(a_4:Clause):Option Bool:=
 (aM a_2.Clauses i_1).bind fun e5=>dA (bif (e5.Kind==a_3) then (dA (bif (e5.Party==a_4.Party) then (e5.Action==a_4.Action) else false) fun u7:Bool=>u7) else false) fun u6:Bool=>some u6
def me (c_1:Contract)(cG:Contract×Int×Clause)(self:(Int×(List Int))→Option ((List Int)⊕(List Int)))(x3:Int×(List Int)):Option ((List Int)⊕(List Int)):=
 bif (decide (x3.1<(len c_1.Clauses))) then ((LK x3.1 cG.1 cG.2.1 cG.2.2).bind fun r4=>ca (ρ:=(List Int)) (bif r4 then ((fA 8 x3.2 [x3.1]).bind fun a6=>some (.inr a6)) else (some (.inr x3.2))) fun u5:(List Int)=>self ((aj (x3.1+1)),u5)) else (some (.inr x3.2))
def oZ (c_1:Contract)(cG:Contract×Int×Clause): (Int×(List Int))→Option ((List Int)⊕(List Int)):=aA (me c_1 cG)
theorem DB (c_1:Contract)(cG:Contract×Int×Clause): ∀a,Fin1 fun f=>me c_1 cG f a:=by
 unfold me
 repeat first|intro _|exact aJ|exact bu|apply bw|apply aY|apply aZ|apply bh|apply bx
theorem FW (c_1:Contract)(cG:Contract×Int×Clause)(x:Int×(List Int)):oZ c_1 cG x=me c_1 cG (oZ c_1 cG) x:=bA (DB c_1 cG) x
def LJ (c_1:Contract)(cG:Contract×Int×Clause):Option (List Int):=
 bn (ρ:=(List Int)) (oZ c_1 cG (0,[])) fun u7:(List Int)=>some u7
def IZ (c_1:Contract)(x_2:Clause)(lT:Int):Option (List Int):=
 (LJ c_1 (c_1,lT,x_2)).bind fun r4=>some r4
def kU (cm:(Condition×(List Int))→Option (List Int))(c_3:Condition)(bg:List Int)(self:(Int×(List Int))→Option ((List Int)⊕(List Int)))(x4:Int×(List Int)):Option ((List Int)⊕(List Int)):=
 bif (decide (x4.1<(len c_3.Parts))) then ((aM c_3.Parts x4.1).bind fun e5=>(cm (e5,x4.2)).bind fun r6=>self ((aj (x4.1+1)),r6)) else (some (.inr x4.2))
def ni (cm:(Condition×(List Int))→Option (List Int))(c_3:Condition)(bg:List Int): (Int×(List Int))→Option ((List Int)⊕(List Int)):=aA (kU cm c_3 bg)
theorem Dt (cm:(Condition×(List Int))→Option (List Int))(c_3:Condition)(bg:List Int): ∀a,Fin1 fun f=>kU cm c_3 bg f a:=by
 unfold kU
 repeat first|intro _|exact aJ|exact bu|apply bw|apply aY|apply aZ|apply bh|apply bx
theorem FT (cm:(Condition×(List Int))→Option (List Int))(c_3:Condition)(bg:List Int)(x:Int×(List Int)):ni cm c_3 bg x=kU cm c_3 bg (ni cm c_3 bg) x:=bA (Dt cm c_3 bg) x
def wY (cm:(Condition×(List Int))→Option (List Int))(c_3:Condition)(bg:List Int):Option (List Int):=
 bn (ρ:=(List Int)) (bif (c_3.Op==3) then ((fA 8 bg [c_3.Day]).bind fun a8=>some (.inr a8)) else (some (.inr bg))) fun u3:(List Int)=>bn (ρ:=(List Int)) (ni cm c_3 bg (0,u3)) fun u7:(List Int)=>some u7
def ng (cm:(Condition×(List Int))→Option (List Int))(x:Condition×(List Int)):Option (List Int):=wY cm x.1 x.2
def LI (c_3:Condition)(bg:List Int):Option (List Int):=aA ng (c_3,bg)
theorem Uv:∀x,Fin1 fun cm=>ng cm x:=by
 unfold ng wY
 repeat first|intro _|exact aJ|exact bu|exact ip|exact jq|exact gv|exact iw|exact gL|exact gM|apply bw|apply aY|apply aZ|apply bh|apply bx|apply nC|unfold ni|unfold kU
theorem WO (c_3:Condition)(bg:List Int):LI c_3 bg=wY (aA ng) c_3 bg:=bA Uv (c_3,bg)
def xc (cN:(Condition×(List ac)×Int)→Option Bool)(c_1:Condition)(bi:List ac)(bV:Int):Option Bool:=
 bif (c_1.Op==2) then ((oe bi c_1.Name).bind fun r4=>some r4) else (bif (c_1.Op==3) then (some (decide (bV≥c_1.Day))) else (bif (c_1.Op==4) then ((aM c_1.Parts 0).bind fun e5=>(cN (e5,bi,bV)).bind fun r6=>some (!r6)) else (bif (c_1.Op==5) then ((aM c_1.Parts 0).bind fun e7=>(cN (e7,bi,bV)).bind fun r8=>bn (ρ:=Bool) (bif r8 then ((aM c_1.Parts 1).bind fun e10=>(cN (e10,bi,bV)).bind fun r11=>some (.inr r11)) else (some (.inr false))) fun u9:Bool=>some u9) else (bif (c_1.Op==6) then ((aM c_1.Parts 0).bind fun e12=>(cN (e12,bi,bV)).bind fun r13=>bn (ρ:=Bool) (bif r13 then (some (.inr true)) else ((aM c_1.Parts 1).bind fun e15=>(cN (e15,bi,bV)).bind fun r16=>some (.inr r16))) fun u14:Bool=>some u14) else (some true)))))
def nm (cN:(Condition×(List ac)×Int)→Option Bool)(x:Condition×(List ac)×Int):Option Bool:=xc cN x.1 x.2.1 x.2.2
def FY (c_1:Condition)(bi:List ac)(bV:Int):Option Bool:=aA nm (c_1,bi,bV)
theorem UF:∀x,Fin1 fun cN=>nm cN x:=by
 unfold nm xc
 repeat first|intro _|exact aJ|exact bu|apply bw|apply aY|apply aZ|apply bh|apply bx
theorem WR (c_1:Condition)(bi:List ac)(bV:Int):FY c_1 bi bV=xc (aA nm) c_1 bi bV:=bA UF (c_1,bi,bV)
def mh (a_1:Condition)(b_2:Condition)(be:Bool)(r6:(List ac))(x10:Int)(r8:(List Int))(q9:Int)(self:(Int×(List ac))→Option ((Bool×Bool)⊕(List ac)))(x11:Int×(List ac)):Option ((Bool×Bool)⊕(List ac)):=
 bif (decide (x11.1<(len r6))) then ((aM r6 x11.1).bind fun e12=>(FC .i64 x10 x11.1).bind fun q13=>ca (ρ:=Bool×Bool) (bif ((Jb .i64 q13 1)==1) then ((fA 16 x11.2 [e12]).bind fun a15=>some (.inr a15)) else (some (.inr x11.2))) fun u14:(List ac)=>self ((aj (x11.1+1)),u14)) else (some (.inr x11.2))
def qx (a_1:Condition)(b_2:Condition)(be:Bool)(r6:(List ac))(x10:Int)(r8:(List Int))(q9:Int):(Int×(List ac))→Option ((Bool×Bool)⊕(List ac)):=aA (mh a_1 b_2 be r6 x10 r8 q9)
theorem DP (a_1:Condition)(b_2:Condition)(be:Bool)(r6:(List ac))(x10:Int)(r8:(List Int))(q9:Int):∀a,Fin1 fun f=>mh a_1 b_2 be r6 x10 r8 q9 f a:=by
 unfold mh
 repeat first|intro _|exact aJ|exact bu|apply bw|apply aY|apply aZ|apply bh|apply bx
theorem F1 (a_1:Condition)(b_2:Condition)(be:Bool)(r6:(List ac))(x10:Int)(r8:(List Int))(q9:Int)(x:Int×(List ac)):qx a_1 b_2 be r6 x10 r8 q9 x=mh a_1 b_2 be r6 x10 r8 q9 (qx a_1 b_2 be r6 x10 r8 q9) x:=bA (DP a_1 b_2 be r6 x10 r8 q9) x
def mi (a_1:Condition)(b_2:Condition)(be:Bool)(r8:(List Int))(u16:(List ac))(r6:(List ac))(q9:Int)(x10:Int)(self:Int→Option ((Bool×Bool)⊕Unit))(x17:Int):Option ((Bool×Bool)⊕Unit):=
 bif (decide (x17<(len r8))) then ((aM r8 x17).bind fun e18=>(FY a_1 u16 e18).bind fun r19=>ca (ρ:=Bool×Bool) (bif r19 then ((FY b_2 u16 e18).bind fun r21=>some (.inr (r21==be))) else (some (.inr false))) fun u20:Bool=>bif u20 then (some (.inl (true,true))) else (self (aj (x17+1)))) else (some (.inr ()))
def pa (a_1:Condition)(b_2:Condition)(be:Bool)(r8:(List Int))(u16:(List ac))(r6:(List ac))(q9:Int)(x10:Int):Int→Option ((Bool×Bool)⊕Unit):=aA (mi a_1 b_2 be r8 u16 r6 q9 x10)
theorem DQ (a_1:Condition)(b_2:Condition)(be:Bool)(r8:(List Int))(u16:(List ac))(r6:(List ac))(q9:Int)(x10:Int):∀a,Fin1 fun f=>mi a_1 b_2 be r8 u16 r6 q9 x10 f a:=by
 unfold mi
 repeat first|intro _|exact aJ|exact bu|apply bw|apply aY|apply aZ|apply bh|apply bx
theorem F2 (a_1:Condition)(b_2:Condition)(be:Bool)(r8:(List Int))(u16:(List ac))(r6:(List ac))(q9:Int)(x10:Int)(x:Int):pa a_1 b_2 be r8 u16 r6 q9 x10 x=mi a_1 b_2 be r8 u16 r6 q9 x10 (pa a_1 b_2 be r8 u16 r6 q9 x10) x:=bA (DQ a_1 b_2 be r8 u16 r6 q9 x10) x
def mg (a_1:Condition)(b_2:Condition)(be:Bool)(q9:Int)(r6:(List ac))(r8:(List Int))(self:Int→Option ((Bool×Bool)⊕Unit))(x10:Int):Option ((Bool×Bool)⊕Unit):=
 bif (decide (x10<q9)) then (ca (ρ:=Bool×Bool) (qx a_1 b_2 be r6 x10 r8 q9 (0,[])) fun u16:(List ac)=>ca (ρ:=Bool×Bool) (pa a_1 b_2 be r8 u16 r6 q9 x10 0) fun u22:Unit=>self (aj (x10+1))) else (some (.inr ()))
def o9 (a_1:Condition)(b_2:Condition)(be:Bool)(q9:Int)(r6:(List ac))(r8:(List Int)):Int→Option ((Bool×Bool)⊕Unit):=aA (mg a_1 b_2 be q9 r6 r8)
theorem DN (a_1:Condition)(b_2:Condition)(be:Bool)(q9:Int)(r6:(List ac))(r8:(List Int)):∀a,Fin1 fun f=>mg a_1 b_2 be q9 r6 r8 f a:=by
 unfold mg
 repeat first|intro _|exact aJ|exact bu|apply bw|apply aY|apply aZ|apply bh|apply bx
theorem F0 (a_1:Condition)(b_2:Condition)(be:Bool)(q9:Int)(r6:(List ac))(r8:(List Int))(x:Int):o9 a_1 b_2 be q9 r6 r8 x=mg a_1 b_2 be q9 r6 r8 (o9 a_1 b_2 be q9 r6 r8) x:=bA (DN a_1 b_2 be q9 r6 r8) x
def DL (a_1:Condition)(b_2:Condition)(be:Bool):Option (Bool×Bool):=
 (IQ a_1 []).bind fun r4=>(IQ b_2 r4).bind fun r5=>(DK r5).bind fun r6=>bif (decide ((len r6)>10)) then (some (false,false)) else ((LI a_1 [0]).bind fun r7=>(LI b_2 r7).bind fun r8=>(A5 .i64 1 (len r6)).bind fun q9=>bn (ρ:=Bool×Bool) (o9 a_1 b_2 be q9 r6 r8 0) fun u23:Unit=>some (false,true))
def ma (c_1:Contract)(r5:(List Int))(e4:Clause)(x3:Int×(List ArrInt2))(self:(Int×(List ArrInt2))→Option (((List ArrInt2)×Bool)⊕(List ArrInt2)))(x6:Int×(List ArrInt2)):Option (((List ArrInt2)×Bool)⊕(List ArrInt2)):=
 bif (decide (x6.1<(len r5))) then ((aM r5 x6.1).bind fun e7=>(aM c_1.Clauses e7).bind fun e8=>(DL e4.When e8.When true).bind fun r9=>bif (!r9.2) then (some (.inl ([],false))) else (ca (ρ:=(List ArrInt2)×Bool) (bif r9.1 then ((fA 16 x6.2 [(ArrInt2.mk x3.1 e7)]).bind fun a11=>some (.inr a11)) else (some (.inr x6.2))) fun u10:(List ArrInt2)=>self ((aj (x6.1+1)),u10))) else (some (.inr x6.2))
def sh (c_1:Contract)(r5:(List Int))(e4:Clause)(x3:Int×(List ArrInt2)):(Int×(List ArrInt2))→Option (((List ArrInt2)×Bool)⊕(List ArrInt2)):=aA (ma c_1 r5 e4 x3)
theorem Bb (c_1:Contract)(r5:(List Int))(e4:Clause)(x3:Int×(List ArrInt2)):∀a,Fin1 fun f=>ma c_1 r5 e4 x3 f a:=by
 unfold ma
 repeat first|intro _|exact aJ|exact bu|apply bw|apply aY|apply aZ|apply bh|apply bx
theorem FM (c_1:Contract)(r5:(List Int))(e4:Clause)(x3:Int×(List ArrInt2))(x:Int×(List ArrInt2)):sh c_1 r5 e4 x3 x=ma c_1 r5 e4 x3 (sh c_1 r5 e4 x3) x:=bA (Bb c_1 r5 e4 x3) x
def l9 (c_1:Contract)(self:(Int×(List ArrInt2))→Option (((List ArrInt2)×Bool)⊕(List ArrInt2)))(x3:Int×(List ArrInt2)):Option (((List ArrInt2)×Bool)⊕(List ArrInt2)):=
 bif (decide (x3.1<(len c_1.Clauses))) then ((aM c_1.Clauses x3.1).bind fun e4=>bif (e4.Kind != 1) then (self ((aj (x3.1+1)),x3.2)) else ((IZ c_1 e4 2).bind fun r5=>ca (ρ:=(List ArrInt2)×Bool) (sh c_1 r5 e4 x3 (0,x3.2)) fun u12:(List ArrInt2)=>self ((aj (x3.1+1)),u12))) else (some (.inr x3.2))
def sf (c_1:Contract): (Int×(List ArrInt2))→Option (((List ArrInt2)×Bool)⊕(List ArrInt2)):=aA (l9 c_1)
theorem Ba (c_1:Contract): ∀a,Fin1 fun f=>l9 c_1 f a:=by
 unfold l9
 repeat first|intro _|exact aJ|exact bu|apply bw|apply aY|apply aZ|apply bh|apply bx
theorem FL (c_1:Contract)(x:Int×(List ArrInt2)):sf c_1 x=l9 c_1 (sf c_1) x:=bA (Ba c_1) x
def FK (c_1:Contract):Option ((List ArrInt2)×Bool):=
 (Ij c_1).bind fun r2=>bif (!r2) then (some ([],false)) else (bn (ρ:=(List ArrInt2)×Bool) (sf c_1 (0,[])) fun u13:(List ArrInt2)=>some (u13,true))
def jC (a_1:ArrInt2)(b_2:ArrInt2)(self:Int→Option (Bool⊕Unit))(x3:Int):Option (Bool⊕Unit):=
 bif (decide (x3<2)) then (bif x3==0 then (bif x3==0 then (bif (a_1.E0 != b_2.E0) then (some (.inl false)) else (self (aj (x3+1)))) else (bif x3==1 then (bif (a_1.E0 != b_2.E1) then (some (.inl false)) else (self (aj (x3+1)))) else none)) else (bif x3==1 then (bif x3==0 then (bif (a_1.E1 != b_2.E0) then (some (.inl false)) else (self (aj (x3+1)))) else (bif x3==1 then (bif (a_1.E1 != b_2.E1) then (some (.inl false)) else (self (aj (x3+1)))) else none)) else none)) else (some (.inr ()))
def wQ (a_1:ArrInt2)(b_2:ArrInt2): Int→Option (Bool⊕Unit):=aA (jC a_1 b_2)
theorem xI (a_1:ArrInt2)(b_2:ArrInt2): ∀a,Fin1 fun f=>jC a_1 b_2 f a:=by
 unfold jC
 repeat first|intro _|exact aJ|exact bu|apply bw|apply aY|apply aZ|apply bh|apply bx
theorem tE (a_1:ArrInt2)(b_2:ArrInt2)(x:Int):wQ a_1 b_2 x=jC a_1 b_2 (wQ a_1 b_2) x:=bA (xI a_1 b_2) x
def uX (a_1:ArrInt2)(b_2:ArrInt2):Option Bool:=
 bn (ρ:=Bool) (wQ a_1 b_2 0) fun u4:Unit=>some true
def mz (a_1:List ArrInt2)(b_2:List ArrInt2)(self:Int→Option (Bool⊕Unit))(x3:Int):Option (Bool⊕Unit):=
 bif (decide (x3<(len a_1))) then ((aM a_1 x3).bind fun e4=>(aM b_2 x3).bind fun e5=>(uX e4 e5).bind fun r6=>bif (!r6) then (some (.inl false)) else (self (aj (x3+1)))) else (some (.inr ()))
def si (a_1:List ArrInt2)(b_2:List ArrInt2): Int→Option (Bool⊕Unit):=aA (mz a_1 b_2)
theorem xJ (a_1:List ArrInt2)(b_2:List ArrInt2): ∀a,Fin1 fun f=>mz a_1 b_2 f a:=by
 unfold mz
 repeat first|intro _|exact aJ|exact bu|apply bw|apply aY|apply aZ|apply bh|apply bx
theorem Mk (a_1:List ArrInt2)(b_2:List ArrInt2)(x:Int):si a_1 b_2 x=mz a_1 b_2 (si a_1 b_2) x:=bA (xJ a_1 b_2) x
def tF (a_1:List ArrInt2)(b_2:List ArrInt2):Option Bool:=
 bif ((len a_1) != (len b_2)) then (some false) else (bn (ρ:=Bool) (si a_1 b_2 0) fun u7:Unit=>some true)
def mA (a_1:List ac)(b_2:List ac)(self:Int→Option (Bool⊕Unit))(x3:Int):Option (Bool⊕Unit):=
 bif (decide (x3<(len a_1))) then ((aM a_1 x3).bind fun e4=>(aM b_2 x3).bind fun e5=>bif (!(e4==e5)) then (some (.inl false)) else (self (aj (x3+1)))) else (some (.inr ()))
def sj (a_1:List ac)(b_2:List ac): Int→Option (Bool⊕Unit):=aA (mA a_1 b_2)
theorem xK (a_1:List ac)(b_2:List ac): ∀a,Fin1 fun f=>mA a_1 b_2 f a:=by
 unfold mA
 repeat first|intro _|exact aJ|exact bu|apply bw|apply aY|apply aZ|apply bh|apply bx
theorem Ml (a_1:List ac)(b_2:List ac)(x:Int):sj a_1 b_2 x=mA a_1 b_2 (sj a_1 b_2) x:=bA (xK a_1 b_2) x
def zi (a_1:List ac)(b_2:List ac):Option Bool:=
 bif ((len a_1) != (len b_2)) then (some false) else (bn (ρ:=Bool) (sj a_1 b_2 0) fun u6:Unit=>some true)
def mj (br:(Condition×Condition)→Option Bool)(a_1:List Condition)(b_2:List Condition)(self:Int→Option (Bool⊕Unit))(x3:Int):Option (Bool⊕Unit):=
 bif (decide (x3<(len a_1))) then ((aM a_1 x3).bind fun e4=>(aM b_2 x3).bind fun e5=>(br (e4,e5)).bind fun r6=>bif (!r6) then (some (.inl false)) else (self (aj (x3+1)))) else (some (.inr ()))
def tf (br:(Condition×Condition)→Option Bool)(a_1:List Condition)(b_2:List Condition): Int→Option (Bool⊕Unit):=aA (mj br a_1 b_2)
theorem DU (br:(Condition×Condition)→Option Bool)(a_1:List Condition)(b_2:List Condition): ∀a,Fin1 fun f=>mj br a_1 b_2 f a:=by
 unfold mj
 repeat first|intro _|exact aJ|exact bu|apply bw|apply aY|apply aZ|apply bh|apply bx
theorem P0 (br:(Condition×Condition)→Option Bool)(a_1:List Condition)(b_2:List Condition)(x:Int):tf br a_1 b_2 x=mj br a_1 b_2 (tf br a_1 b_2) x:=bA (DU br a_1 b_2) x
def F4 (br:(Condition×Condition)→Option Bool)(a_1:List Condition)(b_2:List Condition):Option Bool:=
 bif ((len a_1) != (len b_2)) then (some false) else (bn (ρ:=Bool) (tf br a_1 b_2 0) fun u7:Unit=>some true)
def xf (br:(Condition×Condition)→Option Bool)(a_1:Condition)(b_2:Condition):Option Bool:=
 bif (a_1.Op != b_2.Op) then (some false) else (bif (!(a_1.Name==b_2.Name)) then (some false) else (bif (a_1.Day != b_2.Day) then (some false) else ((F4 br a_1.Parts b_2.Parts).bind fun r3=>bif (!r3) then (some false) else (some true))))
def rc (br:(Condition×Condition)→Option Bool)(x:Condition×Condition):Option Bool:=xf br x.1 x.2
def I3 (a_1:Condition)(b_2:Condition):Option Bool:=aA rc (a_1,b_2)
theorem UU:∀x,Fin1 fun br=>rc br x:=by
 unfold rc xf
 repeat first|intro _|exact aJ|exact bu|exact ip|exact jq|exact gv|exact iw|exact gL|exact gM|apply bw|apply aY|apply aZ|apply bh|apply bx|apply nC|unfold F4|unfold tf|unfold mj
theorem WS (a_1:Condition)(b_2:Condition):I3 a_1 b_2=xf (aA rc) a_1 b_2:=bA UU (a_1,b_2)
def F3 (a_1:Clause)(b_2:Clause):Option Bool:=
 bif (!(a_1.Id==b_2.Id)) then (some false) else (bif (a_1.Kind != b_2.Kind) then (some false) else (bif (a_1.Party != b_2.Party) then (some false) else (bif (!(a_1.Action==b_2.Action)) then (some false) else (bif (a_1.Other != b_2.Other) then (some false) else (bif (a_1.Amount != b_2.Amount) then (some false) else ((I3 a_1.When b_2.When).bind fun r3=>bif (!r3) then (some false) else (bif (a_1.Within != b_2.Within) then (some false) else (bif (!(a_1.Repair==b_2.Repair)) then (some false) else (some true)))))))))
def ot (a_1:List Clause)(b_2:List Clause)(self:Int→Option (Bool⊕Unit))(x3:Int):Option (Bool⊕Unit):=
 bif (decide (x3<(len a_1))) then ((aM a_1 x3).bind fun e4=>(aM b_2 x3).bind fun e5=>(F3 e4 e5).bind fun r6=>bif (!r6) then (some (.inl false)) else (self (aj (x3+1)))) else (some (.inr ()))
def vZ (a_1:List Clause)(b_2:List Clause): Int→Option (Bool⊕Unit):=aA (ot a_1 b_2)
theorem DR (a_1:List Clause)(b_2:List Clause): ∀a,Fin1 fun f=>ot a_1 b_2 f a:=by
 unfold ot
 repeat first|intro _|exact aJ|exact bu|apply bw|apply aY|apply aZ|apply bh|apply bx
theorem PZ (a_1:List Clause)(b_2:List Clause)(x:Int):vZ a_1 b_2 x=ot a_1 b_2 (vZ a_1 b_2) x:=bA (DR a_1 b_2) x
def I2 (a_1:List Clause)(b_2:List Clause):Option Bool:=
 bif ((len a_1) != (len b_2)) then (some false) else (bn (ρ:=Bool) (vZ a_1 b_2 0) fun u7:Unit=>some true)
def ze (a_1:Contract)(b_2:Contract):Option Bool:=
 (zi a_1.Parties b_2.Parties).bind fun r3=>bif (!r3) then (some false) else ((I2 a_1.Clauses b_2.Clauses).bind fun r4=>bif (!r4) then (some false) else (some true))
def kD (k_1:Int)(self:(Int×ac)→Option (ac⊕ac))(x2:Int×ac):Option (ac⊕ac):=
 bif (decide (x2.1>0)) then ((AG ([(IntKind.u8.wrap (aj (48+(x2.1.tmod 10))))].map fun n=>UInt8.ofNat n.toNat) x2.2).bind fun s3=>self ((aj (x2.1.tdiv 10)),s3)) else (some (.inr x2.2))
def sx (k_1:Int): (Int×ac)→Option (ac⊕ac):=aA (kD k_1)
theorem xS (k_1:Int): ∀a,Fin1 fun f=>kD k_1 f a:=by
 unfold kD
 repeat first|intro _|exact aJ|exact bu|apply bw|apply aY|apply aZ|apply bh|apply bx
theorem BE (k_1:Int)(x:Int×ac):sx k_1 x=kD k_1 (sx k_1) x:=bA (xS k_1) x
def nc (k_1:Int):Option ac:=
 bif (decide (k_1≤0)) then (some ([109,48]:ac)) else (bn (ρ:=ac) (sx k_1 (k_1,([]:ac))) fun u4:ac=>(AG ([109]:ac) u4).bind fun s5=>some s5)
def kC (a_7:List ac)(k_8:Int)(self:(Int×Int×(List ac))→Option ((Int×(List ac))⊕(Int×(List ac))))(x3:Int×Int×(List ac)):Option ((Int×(List ac))⊕(Int×(List ac))):=
 bif (decide (x3.2.1<(len x3.2.2))) then ((nc x3.1).bind fun r4=>(aM x3.2.2 x3.2.1).bind fun e5=>self ((aj (x3.1+1)),(aj (x3.2.1+1)),(cS x3.2.2 x3.2.1 r4))) else (some (.inr (x3.1,x3.2.2)))
def sv (a_7:List ac)(k_8:Int): (Int×Int×(List ac))→Option ((Int×(List ac))⊕(Int×(List ac))):=aA (kC a_7 k_8)
theorem xR (a_7:List ac)(k_8:Int): ∀a,Fin1 fun f=>kC a_7 k_8 f a:=by
 unfold kC
 repeat first|intro _|exact aJ|exact bu|apply bw|apply aY|apply aZ|apply bh|apply bx
theorem BB (a_7:List ac)(k_8:Int)(x:Int×Int×(List ac)):sv a_7 k_8 x=kC a_7 k_8 (sv a_7 k_8) x:=bA (xR a_7 k_8) x
def zt (a_7:List ac)(k_8:Int):Option (Int×(List ac)):=
 bn (ρ:=Int×(List ac)) (sv a_7 k_8 (k_8,0,a_7)) fun u6:Int×(List ac)=>bif Nat.beq u6.2.length a_7.length then (some (u6.1,u6.2)) else none
def jE (cb:((List Condition)×Int)→Option (Int×(List Condition)))(a_6:List Condition)(k_7:Int)(self:(Int×Int×(List Condition))→Option ((Int×(List Condition))⊕(Int×(List Condition))))(x3:Int×Int×(List Condition)):Option ((Int×(List Condition))⊕(Int×(List Condition))):=
 bif (decide (x3.2.1<(len x3.2.2))) then ((aM x3.2.2 x3.2.1).bind fun e4=>(nc (aj (x3.1+1))).bind fun r5=>(aM (cS x3.2.2 x3.2.1 (Condition.mk x3.1 e4.Name e4.Day e4.Parts)) x3.2.1).bind fun e6=>dA (cS (cS x3.2.2 x3.2.1 (Condition.mk x3.1 e4.Name e4.Day e4.Parts)) x3.2.1 (Condition.mk e6.Op r5 e6.Day e6.Parts)) fun rw7:List Condition=>(aM rw7 x3.2.1).bind fun e9=>dA (cS rw7 x3.2.1 (Condition.mk e9.Op e9.Name (aj ((aj (x3.1+1))+1)) e9.Parts)) fun rw10:List Condition=>(aM rw10 x3.2.1).bind fun e13=>(cb (e13.Parts,(aj ((aj ((aj (x3.1+1))+1))+1)))).bind fun r14=>bif Nat.beq r14.2.length e13.Parts.length then (dA (cS rw10 x3.2.1 (Condition.mk e13.Op e13.Name e13.Day r14.2)) fun rw16:List Condition=>self (r14.1,(aj (x3.2.1+1)),rw16)) else none) else (some (.inr (x3.1,x3.2.2)))
def ls (cb:((List Condition)×Int)→Option (Int×(List Condition)))(a_6:List Condition)(k_7:Int): (Int×Int×(List Condition))→Option ((Int×(List Condition))⊕(Int×(List Condition))):=aA (jE cb a_6 k_7)
theorem xO (cb:((List Condition)×Int)→Option (Int×(List Condition)))(a_6:List Condition)(k_7:Int): ∀a,Fin1 fun f=>jE cb a_6 k_7 f a:=by
 unfold jE
 repeat first|intro _|exact aJ|exact bu|apply bw|apply aY|apply aZ|apply bh|apply bx
theorem Br (cb:((List Condition)×Int)→Option (Int×(List Condition)))(a_6:List Condition)(k_7:Int)(x:Int×Int×(List Condition)):ls cb a_6 k_7 x=jE cb a_6 k_7 (ls cb a_6 k_7) x:=bA (xO cb a_6 k_7) x
def sr (cb:((List Condition)×Int)→Option (Int×(List Condition)))(a_6:List Condition)(k_7:Int):Option (Int×(List Condition)):=
 bn (ρ:=Int×(List Condition)) (ls cb a_6 k_7 (k_7,0,a_6)) fun u20:Int×(List Condition)=>bif Nat.beq u20.2.length a_6.length then (some (u20.1,u20.2)) else none
def kA (cb:((List Condition)×Int)→Option (Int×(List Condition)))(x:(List Condition)×Int):Option (Int×(List Condition)):=sr cb x.1 x.2
def Mm (a_6:List Condition)(k_7:Int):Option (Int×(List Condition)):=aA kA (a_6,k_7)
theorem Rm:∀x,Fin1 fun cb=>kA cb x:=by
 unfold kA sr
 repeat first|intro _|exact aJ|exact bu|exact ip|exact jq|exact gv|exact iw|exact gL|exact gM|apply bw|apply aY|apply aZ|apply bh|apply bx|apply nC|unfold ls|unfold jE
theorem Uk (a_6:List Condition)(k_7:Int):Mm a_6 k_7=sr (aA kA) a_6 k_7:=bA Rm (a_6,k_7)
def kz (a_7:List Clause)(k_8:Int)(self:(Int×Int×(List Clause))→Option ((Int×(List Clause))⊕(Int×(List Clause))))(x3:Int×Int×(List Clause)):Option ((Int×(List Clause))⊕(Int×(List Clause))):=
 bif (decide (x3.2.1<(len x3.2.2))) then ((nc x3.1).bind fun r4=>(aM x3.2.2 x3.2.1).bind fun e5=>(aM (cS x3.2.2 x3.2.1 (Clause.mk r4 e5.Kind e5.Party e5.Action e5.Other e5.Amount e5.When e5.Within e5.Repair)) x3.2.1).bind fun e6=>dA (cS (cS x3.2.2 x3.2.1 (Clause.mk r4 e5.Kind e5.Party e5.Action e5.Other e5.Amount e5.When e5.Within e5.Repair)) x3.2.1 (Clause.mk e6.Id (aj (x3.1+1)) e6.Party e6.Action e6.Other e6.Amount e6.When e6.Within e6.Repair)) fun rw7:List Clause=>(aM rw7 x3.2.1).bind fun e9=>dA (cS rw7 x3.2.1 (Clause.mk e9.Id e9.Kind (aj ((aj (x3.1+1))+1)) e9.Action e9.Other e9.Amount e9.When e9.Within e9.Repair)) fun rw10:List Clause=>(nc (aj ((aj ((aj (x3.1+1))+1))+1))).bind fun r13=>(aM rw10 x3.2.1).bind fun e14=>dA (cS rw10 x3.2.1 (Clause.mk e14.Id e14.Kind e14.Party r13 e14.Other e14.Amount e14.When e14.Within e14.Repair)) fun rw15:List Clause=>(aM rw15 x3.2.1).bind fun e19=>dA (cS rw15 x3.2.1 (Clause.mk e19.Id e19.Kind e19.Party e19.Action (aj ((aj ((aj ((aj (x3.1+1))+1))+1))+1)) e19.Amount e19.When e19.Within e19.Repair)) fun rw20:List Clause=>(aM rw20 x3.2.1).bind fun e25=>dA (cS rw20 x3.2.1 (Clause.mk e25.Id e25.Kind e25.Party e25.Action e25.Other (aj ((aj ((aj ((aj ((aj (x3.1+1))+1))+1))+1))+1)) e25.When e25.Within e25.Repair)) fun rw26:List Clause=>(aM rw26 x3.2.1).bind fun e32=>dA (cS rw26 x3.2.1 (Clause.mk e32.Id e32.Kind e32.Party e32.Action e32.Other e32.Amount (Condition.mk (aj ((aj ((aj ((aj ((aj ((aj (x3.1+1))+1))+1))+1))+1))+1)) e32.When.Name e32.When.Day e32.When.Parts) e32.Within e32.Repair)) fun rw33:List Clause=>(nc (aj ((aj ((aj ((aj ((aj ((aj ((aj (x3.1+1))+1))+1))+1))+1))+1))+1))).bind fun r40=>(aM rw33 x3.2.1).bind fun e41=>dA (cS rw33 x3.2.1 (Clause.mk e41.Id e41.Kind e41.Party e41.Action e41.Other e41.Amount (Condition.mk e41.When.Op r40 e41.When.Day e41.When.Parts) e41.Within e41.Repair)) fun rw42:List Clause=>(aM rw42 x3.2.1).bind fun e50=>dA (cS rw42 x3.2.1 (Clause.mk e50.Id e50.Kind e50.Party e50.Action e50.Other e50.Amount (Condition.mk e50.When.Op e50.When.Name (aj ((aj ((aj ((aj ((aj ((aj ((aj ((aj (x3.1+1))+1))+1))+1))+1))+1))+1))+1)) e50.When.Parts) e50.Within e50.Repair)) fun rw51:List Clause=>(aM rw51 x3.2.1).bind fun e60=>(Mm e60.When.Parts (aj ((aj ((aj ((aj ((aj ((aj ((aj ((aj ((aj (x3.1+1))+1))+1))+1))+1))+1))+1))+1))+1))).bind fun r61=>bif Nat.beq r61.2.length e60.When.Parts.length then (dA (cS rw51 x3.2.1 (Clause.mk e60.Id e60.Kind e60.Party e60.Action e60.Other e60.Amount (Condition.mk e60.When.Op e60.When.Name e60.When.Day r61.2) e60.Within e60.Repair)) fun rw63:List Clause=>(aM rw63 x3.2.1).bind fun e73=>dA (cS rw63 x3.2.1 (Clause.mk e73.Id e73.Kind e73.Party e73.Action e73.Other e73.Amount e73.When r61.1 e73.Repair)) fun rw74:List Clause=>(nc (aj (r61.1+1))).bind fun r85=>(aM rw74 x3.2.1).bind fun e86=>dA (cS rw74 x3.2.1 (Clause.mk e86.Id e86.Kind e86.Party e86.Action e86.Other e86.Amount e86.When e86.Within r85)) fun rw87:List Clause=>self ((aj ((aj (r61.1+1))+1)),(aj (x3.2.1+1)),rw87)) else none) else (some (.inr (x3.1,x3.2.2)))
def mB (a_7:List Clause)(k_8:Int): (Int×Int×(List Clause))→Option ((Int×(List Clause))⊕(Int×(List Clause))):=aA (kz a_7 k_8)
theorem xN (a_7:List Clause)(k_8:Int): ∀a,Fin1 fun f=>kz a_7 k_8 f a:=by
 unfold kz
 repeat first|intro _|exact aJ|exact bu|apply bw|apply aY|apply aZ|apply bh|apply bx
theorem Bq (a_7:List Clause)(k_8:Int)(x:Int×Int×(List Clause)):mB a_7 k_8 x=kz a_7 k_8 (mB a_7 k_8) x:=bA (xN a_7 k_8) x
def zl (a_7:List Clause)(k_8:Int):Option (Int×(List Clause)):=
 bn (ρ:=Int×(List Clause)) (mB a_7 k_8 (k_8,0,a_7)) fun u99:Int×(List Clause)=>bif Nat.beq u99.2.length a_7.length then (some (u99.1,u99.2)) else none
def zo (a_7:Contract)(k_8:Int):Option Int:=
 (zt a_7.Parties k_8).bind fun r3=>bif Nat.beq r3.2.length a_7.Parties.length then ((zl a_7.Clauses r3.1).bind fun r5=>bif Nat.beq r5.2.length a_7.Clauses.length then (some r5.1) else none) else none
def jF (a_8:List ArrInt2)(k_9:Int)(x3:Int×Int×(List ArrInt2))(self:(Int×Int×(List ArrInt2))→Option ((Int×(List ArrInt2))⊕(Int×(List ArrInt2))))(x4:Int×Int×(List ArrInt2)):Option ((Int×(List ArrInt2))⊕(Int×(List ArrInt2))):=
 bif (decide (x4.2.1<2)) then ((aM x4.2.2 x3.2.1).bind fun e5=>bif x4.2.1==0 then (self ((aj (x4.1+1)),(aj (x4.2.1+1)),(cS x4.2.2 x3.2.1 (ArrInt2.mk x4.1 e5.E1)))) else (bif x4.2.1==1 then (self ((aj (x4.1+1)),(aj (x4.2.1+1)),(cS x4.2.2 x3.2.1 (ArrInt2.mk e5.E0 x4.1)))) else none)) else (some (.inr (x4.1,x4.2.2)))
def su (a_8:List ArrInt2)(k_9:Int)(x3:Int×Int×(List ArrInt2)):(Int×Int×(List ArrInt2))→Option ((Int×(List ArrInt2))⊕(Int×(List ArrInt2))):=aA (jF a_8 k_9 x3)
theorem xQ (a_8:List ArrInt2)(k_9:Int)(x3:Int×Int×(List ArrInt2)):∀a,Fin1 fun f=>jF a_8 k_9 x3 f a:=by
 unfold jF
 repeat first|intro _|exact aJ|exact bu|apply bw|apply aY|apply aZ|apply bh|apply bx
theorem tH (a_8:List ArrInt2)(k_9:Int)(x3:Int×Int×(List ArrInt2))(x:Int×Int×(List ArrInt2)):su a_8 k_9 x3 x=jF a_8 k_9 x3 (su a_8 k_9 x3) x:=bA (xQ a_8 k_9 x3) x
def kB (a_8:List ArrInt2)(k_9:Int)(self:(Int×Int×(List ArrInt2))→Option ((Int×(List ArrInt2))⊕(Int×(List ArrInt2))))(x3:Int×Int×(List ArrInt2)):Option ((Int×(List ArrInt2))⊕(Int×(List ArrInt2))):=
 bif (decide (x3.2.1<(len x3.2.2))) then (ca (ρ:=Int×(List ArrInt2)) (su a_8 k_9 x3 (x3.1,0,x3.2.2)) fun u6:Int×(List ArrInt2)=>self (u6.1,(aj (x3.2.1+1)),u6.2)) else (some (.inr (x3.1,x3.2.2)))
def ss (a_8:List ArrInt2)(k_9:Int): (Int×Int×(List ArrInt2))→Option ((Int×(List ArrInt2))⊕(Int×(List ArrInt2))):=aA (kB a_8 k_9)
theorem xP (a_8:List ArrInt2)(k_9:Int): ∀a,Fin1 fun f=>kB a_8 k_9 f a:=by
 unfold kB
 repeat first|intro _|exact aJ|exact bu|apply bw|apply aY|apply aZ|apply bh|apply bx
theorem Bx (a_8:List ArrInt2)(k_9:Int)(x:Int×Int×(List ArrInt2)):ss a_8 k_9 x=kB a_8 k_9 (ss a_8 k_9) x:=bA (xP a_8 k_9) x
def zq (a_8:List ArrInt2)(k_9:Int):Option (Int×(List ArrInt2)):=
 bn (ρ:=Int×(List ArrInt2)) (ss a_8 k_9 (k_9,0,a_8)) fun u7:Int×(List ArrInt2)=>bif Nat.beq u7.2.length a_8.length then (some (u7.1,u7.2)) else none
def jD (a_1:List ArrInt2)(k_2:Int)(x3:Int×Int)(self:(Int×Int)→Option (Int⊕Int))(x4:Int×Int):Option (Int⊕Int):=
 bif (decide (x4.2<2)) then ((aM a_1 x3.2).bind fun e5=>bif x4.2==0 then (bif (e5.E0 != x4.1) then (some (.inl (-1))) else (self ((aj (x4.1+1)),(aj (x4.2+1))))) else (bif x4.2==1 then (bif (e5.E1 != x4.1) then (some (.inl (-1))) else (self ((aj (x4.1+1)),(aj (x4.2+1))))) else none)) else (some (.inr x4.1))
def sn (a_1:List ArrInt2)(k_2:Int)(x3:Int×Int):(Int×Int)→Option (Int⊕Int):=aA (jD a_1 k_2 x3)
theorem xM (a_1:List ArrInt2)(k_2:Int)(x3:Int×Int):∀a,Fin1 fun f=>jD a_1 k_2 x3 f a:=by
 unfold jD
 repeat first|intro _|exact aJ|exact bu|apply bw|apply aY|apply aZ|apply bh|apply bx
theorem tG (a_1:List ArrInt2)(k_2:Int)(x3:Int×Int)(x:Int×Int):sn a_1 k_2 x3 x=jD a_1 k_2 x3 (sn a_1 k_2 x3) x:=bA (xM a_1 k_2 x3) x
def ky (a_1:List ArrInt2)(k_2:Int)(self:(Int×Int)→Option (Int⊕Int))(x3:Int×Int):Option (Int⊕Int):=
 bif (decide (x3.2<(len a_1))) then (ca (ρ:=Int) (sn a_1 k_2 x3 (x3.1,0)) fun u6:Int=>self (u6,(aj (x3.2+1)))) else (some (.inr x3.1))
def sk (a_1:List ArrInt2)(k_2:Int): (Int×Int)→Option (Int⊕Int):=aA (ky a_1 k_2)
theorem xL (a_1:List ArrInt2)(k_2:Int): ∀a,Fin1 fun f=>ky a_1 k_2 f a:=by
 unfold ky
 repeat first|intro _|exact aJ|exact bu|apply bw|apply aY|apply aZ|apply bh|apply bx
theorem Bn (a_1:List ArrInt2)(k_2:Int)(x:Int×Int):sk a_1 k_2 x=ky a_1 k_2 (sk a_1 k_2) x:=bA (xL a_1 k_2) x
def uY (a_1:List ArrInt2)(k_2:Int):Option Int:=
 bn (ρ:=Int) (sk a_1 k_2 (k_2,0)) fun u7:Int=>some u7
def eb (gc:Contract):Option Bool:=
 (zC gc 1048576).bind fun r2=>bif (decide (r2<0)) then (some true) else ((rB gc).bind fun r3=>(zT r3).bind fun r4=>(rB gc).bind fun r5=>(FK r5).bind fun r6=>(tF r6.1 r4.1).bind fun r7=>dA (bif (!r7) then true else (!(r6.2==r4.2))) fun u8:Bool=>bif u8 then (some false) else ((rB gc).bind fun r9=>(ze r5 r9).bind fun r10=>bif (!r10) then (some false) else ((zo r5 1).bind fun r11=>bn (ρ:=Bool) (bif (decide (r11<0)) then (some (.inr true)) else ((tF r6.1 r4.1).bind fun r21=>dA (bif (!r21) then true else (!(r6.2==r4.2))) fun u22:Bool=>some (.inr u22))) fun u12:Bool=>bif u12 then (some false) else ((zq r6.1 1).bind fun r13=>bif Nat.beq r13.2.length r6.1.length then ((uY r13.2 1).bind fun r15=>bif (decide (r15<0)) then (some false) else (bif (r15 != r13.1) then (some false) else ((rB gc).bind fun r16=>(FK r16).bind fun r17=>(tF r17.1 r4.1).bind fun r18=>dA (bif (!r18) then true else (!(r17.2==r4.2))) fun u19:Bool=>bif u19 then (some false) else ((uY r13.2 1).bind fun r20=>bif (decide (r20<0)) then (some false) else (bif (r20 != r13.1) then (some false) else (some true)))))) else none))))
end
end Go.Ln
