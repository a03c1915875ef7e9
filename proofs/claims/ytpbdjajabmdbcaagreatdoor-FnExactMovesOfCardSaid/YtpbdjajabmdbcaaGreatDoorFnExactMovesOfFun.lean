/-
  What each function computes.
-/
import Derived.Test.YtpbdjajabmdbcaaGreatDoorFnExactMovesOfLnC
set_option maxHeartbeats 4000000
set_option linter.unusedVariables false
set_option linter.unusedSimpArgs false
set_option maxRecDepth 100000
namespace Go.Ln
open Go
noncomputable section
structure Condition where
 Op:Int
 Name:ae
 Day:Int
 Parts:List Condition
mutual
def aF:Condition→V
 | ⟨a0,a1,a2,a3⟩=>.agg [I a0,str a1,I a2,.isl false (dQ a3)]
def dQ:List Condition→List V
 | []=>[]
 | x::xs=>aF x::dQ xs
end
theorem oC:∀xs,dQ xs=xs.map aF
 | []=>by simp[dQ]
 | x::xs=>by simp[dQ,oC xs]
def bB (x:Condition):V:=.agg [I x.Op,str x.Name,I x.Day,.isl false (x.Parts.map aF)]
abbrev ao (x:Condition):V:=.agg [I x.Op,str x.Name,I x.Day,.isl false (x.Parts.map aF)]
theorem dC (x:Condition):aF x=bB x:=by cases x;simp only[aF,bB,oC]
mutual
theorem fH:∀(a b:Condition),aF a=aF b→a=b
 | ⟨a0,a1,a2,a3⟩,⟨b0,b1,b2,b3⟩,h=>by
  simp only[aF] at h
  have k0:=V.agg.inj h
  obtain⟨h0,k1⟩:=List.cons.inj k0
  obtain rfl:=bF a0 b0 h0
  obtain⟨h1,k2⟩:=List.cons.inj k1
  obtain rfl:=bT a1 b1 h1
  obtain⟨h2,k3⟩:=List.cons.inj k2
  obtain rfl:=bF a2 b2 h2
  obtain⟨h3,k4⟩:=List.cons.inj k3
  have e3:dQ a3=dQ b3:=by simpa using h3
  obtain rfl:=oB a3 b3 e3
  rfl
theorem oB:∀(a b:List Condition),dQ a=dQ b→a=b
 | [],[],_=>rfl
 | [],_::_,h=>by simp[dQ] at h
 | _::_,[],h=>by simp[dQ] at h
 | x::xs,y::ys,h=>by
  simp only[dQ,List.cons.injEq] at h
  rw[fH x y h.1,oB xs ys h.2]
end
theorem dH (a b:Condition)(h:bB a=bB b):a=b:=fH a b (by rw[dC,dC,h])
mutual
def ai:Condition→V
 | ⟨a0,a1,a2,a3⟩=>.agg [I a0,str a1,I a2,.usl 4 (cY a3)]
def cY:List Condition→List V
 | []=>[]
 | x::xs=>ai x::cY xs
end
theorem oG:∀xs,cY xs=xs.map ai
 | []=>by simp[cY]
 | x::xs=>by simp[cY,oG xs]
def sa (x:Condition):V:=.agg [I x.Op,str x.Name,I x.Day,.usl 4 (x.Parts.map ai)]
abbrev pN (x:Condition):V:=.agg [I x.Op,str x.Name,I x.Day,.usl 4 (x.Parts.map ai)]
theorem dD (x:Condition):ai x=sa x:=by cases x;simp only[ai,sa,oG]
mutual
theorem lD:∀(a b:Condition),ai a=ai b→a=b
 | ⟨a0,a1,a2,a3⟩,⟨b0,b1,b2,b3⟩,h=>by
  simp only[ai] at h
  have k0:=V.agg.inj h
  obtain⟨h0,k1⟩:=List.cons.inj k0
  obtain rfl:=bF a0 b0 h0
  obtain⟨h1,k2⟩:=List.cons.inj k1
  obtain rfl:=bT a1 b1 h1
  obtain⟨h2,k3⟩:=List.cons.inj k2
  obtain rfl:=bF a2 b2 h2
  obtain⟨h3,k4⟩:=List.cons.inj k3
  have e3:cY a3=cY b3:=by simpa using h3
  obtain rfl:=oE a3 b3 e3
  rfl
theorem oE:∀(a b:List Condition),cY a=cY b→a=b
 | [],[],_=>rfl
 | [],_::_,h=>by simp[cY] at h
 | _::_,[],h=>by simp[cY] at h
 | x::xs,y::ys,h=>by
  simp only[cY,List.cons.injEq] at h
  rw[lD x y h.1,oE xs ys h.2]
end
mutual
theorem pD:∀x:Condition,eD (ai x)=aF x
 | ⟨a0,a1,a2,a3⟩=>by simp[ai,aF,eD,fP,str,oD]
theorem oD:∀xs:List Condition,fP (cY xs)=dQ xs
 | []=>by simp[cY,dQ,fP]
 | x::xs=>by simp[cY,dQ,fP,pD x,oD xs]
end
mutual
theorem vz:∀x:Condition,di (ai x)=false
 | ⟨a0,a1,a2,a3⟩=>by simp[ai,di,dR,str,nU]
theorem nU:∀xs:List Condition,dR (cY xs)=false
 | []=>by simp[cY,dR]
 | x::xs=>by simp[cY,dR,vz x,nU xs]
end
structure Clause where
 Id:ae
 Kind:Int
 Party:Int
 Action:ae
 Other:Int
 Amount:Int
 When:Condition
 Within:Int
 Repair:ae
def aA (x:Clause):V:=.agg [str x.Id,I x.Kind,I x.Party,str x.Action,I x.Other,I x.Amount,I x.When.Op,str x.When.Name,I x.When.Day,.isl false (x.When.Parts.map aF),I x.Within,str x.Repair]
abbrev aG (x:Clause):V:=.agg [str x.Id,I x.Kind,I x.Party,str x.Action,I x.Other,I x.Amount,I x.When.Op,str x.When.Name,I x.When.Day,.isl false (x.When.Parts.map aF),I x.Within,str x.Repair]
theorem eG (a b:Clause)(h:aA a=aA b):a=b:=by
 obtain⟨p0,p1,p2,p3,p4,p5,⟨p6,p7,p8,p9⟩,p10,p11⟩:=a
 obtain⟨q0,q1,q2,q3,q4,q5,⟨q6,q7,q8,q9⟩,q10,q11⟩:=b
 replace h:=V.agg.inj h
 obtain⟨h0,h⟩:=List.cons.inj h
 obtain rfl:=bT p0 q0 h0
 obtain⟨h1,h⟩:=List.cons.inj h
 obtain rfl:=bF p1 q1 h1
 obtain⟨h2,h⟩:=List.cons.inj h
 obtain rfl:=bF p2 q2 h2
 obtain⟨h3,h⟩:=List.cons.inj h
 obtain rfl:=bT p3 q3 h3
 obtain⟨h4,h⟩:=List.cons.inj h
 obtain rfl:=bF p4 q4 h4
 obtain⟨h5,h⟩:=List.cons.inj h
 obtain rfl:=bF p5 q5 h5
 obtain⟨h6,h⟩:=List.cons.inj h
 obtain rfl:=bF p6 q6 h6
 obtain⟨h7,h⟩:=List.cons.inj h
 obtain rfl:=bT p7 q7 h7
 obtain⟨h8,h⟩:=List.cons.inj h
 obtain rfl:=bF p8 q8 h8
 obtain⟨h9,h⟩:=List.cons.inj h
 obtain rfl:=(ek fH) p9 q9 h9
 obtain⟨h10,h⟩:=List.cons.inj h
 obtain rfl:=bF p10 q10 h10
 obtain⟨h11,h⟩:=List.cons.inj h
 obtain rfl:=bT p11 q11 h11
 rfl
def aj (x:Clause):V:=.agg [str x.Id,I x.Kind,I x.Party,str x.Action,I x.Other,I x.Amount,I x.When.Op,str x.When.Name,I x.When.Day,.usl 4 (x.When.Parts.map ai),I x.Within,str x.Repair]
abbrev un (x:Clause):V:=.agg [str x.Id,I x.Kind,I x.Party,str x.Action,I x.Other,I x.Amount,I x.When.Op,str x.When.Name,I x.When.Day,.usl 4 (x.When.Parts.map ai),I x.Within,str x.Repair]
theorem gB (x:Clause):eD (aj x)=aA x:=abq (ks rfl (ks rfl (ks rfl (ks rfl (ks rfl (ks rfl (ks rfl (ks rfl (ks rfl (ks (abr (eh pD)) (ks rfl (ks rfl rfl))))))))))))
theorem rZ (a b:Clause)(h:aj a=aj b):a=b:=by
 obtain⟨p0,p1,p2,p3,p4,p5,⟨p6,p7,p8,p9⟩,p10,p11⟩:=a
 obtain⟨q0,q1,q2,q3,q4,q5,⟨q6,q7,q8,q9⟩,q10,q11⟩:=b
 replace h:=V.agg.inj h
 obtain⟨h0,h⟩:=List.cons.inj h
 obtain rfl:=bT p0 q0 h0
 obtain⟨h1,h⟩:=List.cons.inj h
 obtain rfl:=bF p1 q1 h1
 obtain⟨h2,h⟩:=List.cons.inj h
 obtain rfl:=bF p2 q2 h2
 obtain⟨h3,h⟩:=List.cons.inj h
 obtain rfl:=bT p3 q3 h3
 obtain⟨h4,h⟩:=List.cons.inj h
 obtain rfl:=bF p4 q4 h4
 obtain⟨h5,h⟩:=List.cons.inj h
 obtain rfl:=bF p5 q5 h5
 obtain⟨h6,h⟩:=List.cons.inj h
 obtain rfl:=bF p6 q6 h6
 obtain⟨h7,h⟩:=List.cons.inj h
 obtain rfl:=bT p7 q7 h7
 obtain⟨h8,h⟩:=List.cons.inj h
 obtain rfl:=bF p8 q8 h8
 obtain⟨h9,h⟩:=List.cons.inj h
 obtain rfl:=(eL lD) p9 q9 h9
 obtain⟨h10,h⟩:=List.cons.inj h
 obtain rfl:=bF p10 q10 h10
 obtain⟨h11,h⟩:=List.cons.inj h
 obtain rfl:=bT p11 q11 h11
 rfl
structure Contract where
 Parties:List ae
 Clauses:List Clause
def bn (x:Contract):V:=.agg [.isl false (x.Parties.map str),.isl false (x.Clauses.map aA)]
abbrev ak (x:Contract):V:=.agg [.isl false (x.Parties.map str),.isl false (x.Clauses.map aA)]
theorem co (a b:Contract)(h:bn a=bn b):a=b:=by
 obtain⟨p0,p1⟩:=a
 obtain⟨q0,q1⟩:=b
 replace h:=V.agg.inj h
 obtain⟨h0,h⟩:=List.cons.inj h
 obtain rfl:=(ek bT) p0 q0 h0
 obtain⟨h1,h⟩:=List.cons.inj h
 obtain rfl:=(ek eG) p1 q1 h1
 rfl
def pP (x:Contract):V:=.agg [.usl 1 (x.Parties.map str),.usl 12 (x.Clauses.map aj)]
abbrev ko (x:Contract):V:=.agg [.usl 1 (x.Parties.map str),.usl 12 (x.Clauses.map aj)]
theorem yw (a b:Contract)(h:pP a=pP b):a=b:=by
 obtain⟨p0,p1⟩:=a
 obtain⟨q0,q1⟩:=b
 replace h:=V.agg.inj h
 obtain⟨h0,h⟩:=List.cons.inj h
 obtain rfl:=(eL bT) p0 q0 h0
 obtain⟨h1,h⟩:=List.cons.inj h
 obtain rfl:=(eL rZ) p1 q1 h1
 rfl
structure Event where
 Day:Int
 Party:Int
 Action:ae
 Amount:Int
def aa (x:Event):V:=.agg [I x.Day,I x.Party,str x.Action,I x.Amount]
abbrev aaC (x:Event):V:=.agg [I x.Day,I x.Party,str x.Action,I x.Amount]
theorem jj (x:Event):(cells (aa x)).length=4∧(cells (aa x)).all fA=true:=⟨rfl,rfl⟩
theorem fK (x:Event):eD (aa x)=aa x:=rfl
theorem l8 (x:Event):di (aa x)=false:=rfl
theorem iW (x:Event):ka (aa x)=true:=rfl
theorem ca (a b:Event)(h:aa a=aa b):a=b:=by
 obtain⟨p0,p1,p2,p3⟩:=a
 obtain⟨q0,q1,q2,q3⟩:=b
 replace h:=V.agg.inj h
 obtain⟨h0,h⟩:=List.cons.inj h
 obtain rfl:=bF p0 q0 h0
 obtain⟨h1,h⟩:=List.cons.inj h
 obtain rfl:=bF p1 q1 h1
 obtain⟨h2,h⟩:=List.cons.inj h
 obtain rfl:=bT p2 q2 h2
 obtain⟨h3,h⟩:=List.cons.inj h
 obtain rfl:=bF p3 q3 h3
 rfl
mutual
def oJ:Condition→Prop
 | ⟨a0,a1,a2,a3⟩=>zl a0∧Hp a1∧zl a2∧(a3.length≤maxLen∧Jg a3)
def Jg:List Condition→Prop
 | []=>True
 | x::xs=>oJ x∧Jg xs
end
theorem Jh:∀xs,Jg xs↔∀x∈xs,oJ x
 | []=>by simp[Jg]
 | x::xs=>by simp[Jg,Jh xs]
theorem Jf (x:Condition):oJ x↔zl x.Op∧Hp x.Name∧zl x.Day∧Fz oJ x.Parts:=by cases x;simp only[oJ,Jh,Fz]
def si (x:Clause):Prop:=Hp x.Id∧zl x.Kind∧zl x.Party∧Hp x.Action∧zl x.Other∧zl x.Amount∧oJ x.When∧zl x.Within∧Hp x.Repair
def Ud (x:Contract):Prop:=(Fz Hp) x.Parties∧(Fz si) x.Clauses
def na (a_1:List ae)(aD:Int)(self:(Int×Int)→Option (Int⊕Int))(x3:Int×Int):Option (Int⊕Int):=
 bif (decide (x3.2<(len a_1))) then ((aC a_1 x3.2).bind fun e4=>bif (decide ((ac (x3.1 - (len e4)))<0)) then (some (.inl (-1))) else (self ((ac (x3.1 - (len e4))),(ac (x3.2+1))))) else (some (.inr x3.1))
def tp (a_1:List ae)(aD:Int): (Int×Int)→Option (Int⊕Int):=aP (na a_1 aD)
theorem yJ (a_1:List ae)(aD:Int): ∀a,Fin1 fun f=>na a_1 aD f a:=by
 unfold na
 repeat first|intro _|exact aX|exact bv|apply bw|apply bc|apply bd|apply bi|apply bx
theorem Oc (a_1:List ae)(aD:Int)(x:Int×Int):tp a_1 aD x=na a_1 aD (tp a_1 aD) x:=cd (yJ a_1 aD) x
def Am (a_1:List ae)(aD:Int):Option Int:=
 bif (decide ((ac (aD - (len a_1)))<0)) then (some (-1)) else (bD (ρ:=Int) (tp a_1 aD ((ac (aD - (len a_1))),0)) fun u5:Int=>some u5)
def kV (bq:(Condition×Int)→Option Int)(a_1:List Condition)(aD:Int)(self:(Int×Int)→Option (Int⊕Int))(x3:Int×Int):Option (Int⊕Int):=
 bif (decide (x3.2<(len a_1))) then ((aC a_1 x3.2).bind fun e4=>(bq (e4,x3.1)).bind fun r5=>bif (decide (r5<0)) then (some (.inl (-1))) else (self (r5,(ac (x3.2+1))))) else (some (.inr x3.1))
def qm (bq:(Condition×Int)→Option Int)(a_1:List Condition)(aD:Int): (Int×Int)→Option (Int⊕Int):=aP (kV bq a_1 aD)
theorem yI (bq:(Condition×Int)→Option Int)(a_1:List Condition)(aD:Int): ∀a,Fin1 fun f=>kV bq a_1 aD f a:=by
 unfold kV
 repeat first|intro _|exact aX|exact bv|apply bw|apply bc|apply bd|apply bi|apply bx
theorem Ob (bq:(Condition×Int)→Option Int)(a_1:List Condition)(aD:Int)(x:Int×Int):qm bq a_1 aD x=kV bq a_1 aD (qm bq a_1 aD) x:=cd (yI bq a_1 aD) x
def vJ (bq:(Condition×Int)→Option Int)(a_1:List Condition)(aD:Int):Option Int:=
 bif (decide ((ac (aD - (len a_1)))<0)) then (some (-1)) else (bD (ρ:=Int) (qm bq a_1 aD ((ac (aD - (len a_1))),0)) fun u6:Int=>some u6)
def tn (bq:(Condition×Int)→Option Int)(a_1:Condition)(aD:Int):Option Int:=
 bif (decide ((ac (aD - (len a_1.Name)))<0)) then (some (-1)) else ((vJ bq a_1.Parts (ac (aD - (len a_1.Name)))).bind fun r3=>bif (decide (r3<0)) then (some (-1)) else (some r3))
def pt (bq:(Condition×Int)→Option Int)(x:Condition×Int):Option Int:=tn bq x.1 x.2
def vG (a_1:Condition)(aD:Int):Option Int:=aP pt (a_1,aD)
theorem TX:∀x,Fin1 fun bq=>pt bq x:=by
 unfold pt tn
 repeat first|intro _|exact aX|exact bv|exact je|exact kD|exact iz|exact jr|exact iR|exact iT|apply bw|apply bc|apply bd|apply bi|apply bx|apply ph|unfold vJ|unfold qm|unfold kV
theorem Xi (a_1:Condition)(aD:Int):vG a_1 aD=tn (aP pt) a_1 aD:=cd TX (a_1,aD)
def ut (a_1:Clause)(aD:Int):Option Int:=
 bif (decide ((ac (aD - (len a_1.Id)))<0)) then (some (-1)) else (bif (decide ((ac ((ac (aD - (len a_1.Id))) - (len a_1.Action)))<0)) then (some (-1)) else ((vG a_1.When (ac ((ac (aD - (len a_1.Id))) - (len a_1.Action)))).bind fun r3=>bif (decide (r3<0)) then (some (-1)) else (bif (decide ((ac (r3 - (len a_1.Repair)))<0)) then (some (-1)) else (some (ac (r3 - (len a_1.Repair)))))))
def mZ (a_1:List Clause)(aD:Int)(self:(Int×Int)→Option (Int⊕Int))(x3:Int×Int):Option (Int⊕Int):=
 bif (decide (x3.2<(len a_1))) then ((aC a_1 x3.2).bind fun e4=>(ut e4 x3.1).bind fun r5=>bif (decide (r5<0)) then (some (.inl (-1))) else (self (r5,(ac (x3.2+1))))) else (some (.inr x3.1))
def tk (a_1:List Clause)(aD:Int): (Int×Int)→Option (Int⊕Int):=aP (mZ a_1 aD)
theorem yH (a_1:List Clause)(aD:Int): ∀a,Fin1 fun f=>mZ a_1 aD f a:=by
 unfold mZ
 repeat first|intro _|exact aX|exact bv|apply bw|apply bc|apply bd|apply bi|apply bx
theorem Oa (a_1:List Clause)(aD:Int)(x:Int×Int):tk a_1 aD x=mZ a_1 aD (tk a_1 aD) x:=cd (yH a_1 aD) x
def Af (a_1:List Clause)(aD:Int):Option Int:=
 bif (decide ((ac (aD - (len a_1)))<0)) then (some (-1)) else (bD (ρ:=Int) (tk a_1 aD ((ac (aD - (len a_1))),0)) fun u6:Int=>some u6)
def Ak (a_1:Contract)(aD:Int):Option Int:=
 (Am a_1.Parties aD).bind fun r3=>bif (decide (r3<0)) then (some (-1)) else ((Af a_1.Clauses r3).bind fun r4=>bif (decide (r4<0)) then (some (-1)) else (some r4))
def ne (a_1:List ae)(self:(Int×(List ae))→Option ((List ae)⊕(List ae)))(x3:Int×(List ae)):Option ((List ae)⊕(List ae)):=
 bif (decide (x3.1<(len a_1))) then ((aC a_1 x3.1).bind fun e4=>(aC x3.2 x3.1).bind fun e5=>self ((ac (x3.1+1)),(aK x3.2 x3.1 e4))) else (some (.inr x3.2))
def tu (a_1:List ae): (Int×(List ae))→Option ((List ae)⊕(List ae)):=aP (ne a_1)
theorem yM (a_1:List ae): ∀a,Fin1 fun f=>ne a_1 f a:=by
 unfold ne
 repeat first|intro _|exact aX|exact bv|apply bw|apply bc|apply bd|apply bi|apply bx
theorem Og (a_1:List ae)(x:Int×(List ae)):tu a_1 x=ne a_1 (tu a_1) x:=cd (yM a_1) x
def Ay (a_1:List ae):Option (List ae):=
 (vu 16 [] (len a_1)).bind fun m2=>bD (ρ:=(List ae)) (tu a_1 (0,m2)) fun u6:(List ae)=>some u6
def kW (br:Condition→Option Condition)(a_1:List Condition)(self:(Int×(List Condition))→Option ((List Condition)⊕(List Condition)))(x3:Int×(List Condition)):Option ((List Condition)⊕(List Condition)):=
 bif (decide (x3.1<(len a_1))) then ((aC a_1 x3.1).bind fun e4=>(br e4).bind fun r5=>(aC x3.2 x3.1).bind fun e6=>self ((ac (x3.1+1)),(aK x3.2 x3.1 r5))) else (some (.inr x3.2))
def qn (br:Condition→Option Condition)(a_1:List Condition): (Int×(List Condition))→Option ((List Condition)⊕(List Condition)):=aP (kW br a_1)
theorem yL (br:Condition→Option Condition)(a_1:List Condition): ∀a,Fin1 fun f=>kW br a_1 f a:=by
 unfold kW
 repeat first|intro _|exact aX|exact bv|apply bw|apply bc|apply bd|apply bi|apply bx
theorem Oe (br:Condition→Option Condition)(a_1:List Condition)(x:Int×(List Condition)):qn br a_1 x=kW br a_1 (qn br a_1) x:=cd (yL br a_1) x
def vN (br:Condition→Option Condition)(a_1:List Condition):Option (List Condition):=
 (vu 56 (Condition.mk 0 [] 0 []) (len a_1)).bind fun m2=>bD (ρ:=(List Condition)) (qn br a_1 (0,m2)) fun u7:(List Condition)=>some u7
def tt (br:Condition→Option Condition)(a_1:Condition):Option Condition:=
 (vN br a_1.Parts).bind fun r2=>some (Condition.mk a_1.Op a_1.Name a_1.Day r2)
def pw (br:Condition→Option Condition)(x:Condition):Option Condition:=tt br x
def Ar (a_1:Condition):Option Condition:=aP pw a_1
theorem T5:∀x,Fin1 fun br=>pw br x:=by
 unfold pw tt
 repeat first|intro _|exact aX|exact bv|exact je|exact kD|exact iz|exact jr|exact iR|exact iT|apply bw|apply bc|apply bd|apply bi|apply bx|apply ph|unfold vN|unfold qn|unfold kW
theorem Xj (a_1:Condition):Ar a_1=tt (aP pw) a_1:=cd T5 a_1
def vK (a_1:Clause):Option Clause:=
 (Ar a_1.When).bind fun r2=>some (Clause.mk a_1.Id a_1.Kind a_1.Party a_1.Action a_1.Other a_1.Amount r2 a_1.Within a_1.Repair)
def nc (a_1:List Clause)(self:(Int×(List Clause))→Option ((List Clause)⊕(List Clause)))(x3:Int×(List Clause)):Option ((List Clause)⊕(List Clause)):=
 bif (decide (x3.1<(len a_1))) then ((aC a_1 x3.1).bind fun e4=>(vK e4).bind fun r5=>(aC x3.2 x3.1).bind fun e6=>self ((ac (x3.1+1)),(aK x3.2 x3.1 r5))) else (some (.inr x3.2))
def tq (a_1:List Clause): (Int×(List Clause))→Option ((List Clause)⊕(List Clause)):=aP (nc a_1)
theorem yK (a_1:List Clause): ∀a,Fin1 fun f=>nc a_1 f a:=by
 unfold nc
 repeat first|intro _|exact aX|exact bv|apply bw|apply bc|apply bd|apply bi|apply bx
theorem Od (a_1:List Clause)(x:Int×(List Clause)):tq a_1 x=nc a_1 (tq a_1) x:=cd (yK a_1) x
def Ap (a_1:List Clause):Option (List Clause):=
 (vu 144 (Clause.mk [] 0 0 [] 0 0 (Condition.mk 0 [] 0 []) 0 []) (len a_1)).bind fun m2=>bD (ρ:=(List Clause)) (tq a_1 (0,m2)) fun u7:(List Clause)=>some u7
def sw (a_1:Contract):Option Contract:=
 (Ay a_1.Parties).bind fun r2=>(Ap a_1.Clauses).bind fun r3=>some (Contract.mk r2 r3)
def fw (x_1:Int)(a_2:Int)(b_3:Int):Option Bool:=
 cj (bif (decide (x_1≥a_2)) then (decide (x_1≤b_3)) else false) fun u4:Bool=>some u4
def wo (b_1:Int):Option Bool:=
 cj (bif (decide (b_1≥97)) then (cj (bif (decide (b_1≤122)) then true else (cj (bif (decide (b_1≥48)) then (decide (b_1≤57)) else false) fun u4:Bool=>u4)) fun u3:Bool=>u3) else (cj (bif (decide (b_1≥48)) then (decide (b_1≤57)) else false) fun u5:Bool=>u5)) fun u2:Bool=>some u2
def nk (s_1:ae)(self:Int→Option (Bool⊕Unit))(x4:Int):Option (Bool⊕Unit):=
 bif (decide (x4<(len s_1))) then ((aC s_1 x4).bind fun c5=>(wo (c5.toNat:Int)).bind fun r6=>bif (!r6) then (some (.inl false)) else (self (ac (x4+1)))) else (some (.inr ()))
def tF (s_1:ae): Int→Option (Bool⊕Unit):=aP (nk s_1)
theorem za (s_1:ae): ∀a,Fin1 fun f=>nk s_1 f a:=by
 unfold nk
 repeat first|intro _|exact aX|exact bv|apply bw|apply bc|apply bd|apply bi|apply bx
theorem Oo (s_1:ae)(x:Int):tF s_1 x=nk s_1 (tF s_1) x:=cd (za s_1) x
def sB (s_1:ae):Option Bool:=
 (fw (len s_1) 1 8).bind fun r2=>bD (ρ:=Bool) (bif (!r2) then (some (.inr true)) else ((aC s_1 0).bind fun c16=>bQ (ρ:=Bool) (bif (decide ((c16.toNat:Int)<97)) then (some (.inr true)) else ((aC s_1 0).bind fun c18=>some (.inr (decide ((c18.toNat:Int)>122))))) fun u17:Bool=>some (.inr u17))) fun u3:Bool=>bif u3 then (some false) else (bD (ρ:=Bool) (tF s_1 0) fun u7:Unit=>cj (bif (s_1==([116,114,117,101]:ae)) then (s_1==([116,114,117,101]:ae)) else (cj (bif (s_1==([102,114,111,109]:ae)) then (s_1==([102,114,111,109]:ae)) else (cj (bif (s_1==([110,111,116]:ae)) then (s_1==([110,111,116]:ae)) else (cj (bif (s_1==([97,110,100]:ae)) then (s_1==([97,110,100]:ae)) else (cj (bif (s_1==([111,114]:ae)) then (s_1==([111,114]:ae)) else (cj (bif (s_1==([98,111,116,104]:ae)) then (s_1==([98,111,116,104]:ae)) else (cj (bif (s_1==([101,105,116,104,101,114]:ae)) then (s_1==([101,105,116,104,101,114]:ae)) else (cj (bif (s_1==([105,116]:ae)) then (s_1==([105,116]:ae)) else (s_1==([105,110]:ae))) fun u15:Bool=>u15)) fun u14:Bool=>u14)) fun u13:Bool=>u13)) fun u12:Bool=>u12)) fun u11:Bool=>u11)) fun u10:Bool=>u10)) fun u9:Bool=>u9)) fun u8:Bool=>bif u8 then (some false) else (some true))
def ng (aI:List ae)(eW:ae)(self:Int→Option (Bool⊕Unit))(x3:Int):Option (Bool⊕Unit):=
 bif (decide (x3<(len aI))) then ((aC aI x3).bind fun e4=>bif (e4==eW) then (some (.inl true)) else (self (ac (x3+1)))) else (some (.inr ()))
def tE (aI:List ae)(eW:ae): Int→Option (Bool⊕Unit):=aP (ng aI eW)
theorem yZ (aI:List ae)(eW:ae): ∀a,Fin1 fun f=>ng aI eW f a:=by
 unfold ng
 repeat first|intro _|exact aX|exact bv|apply bw|apply bc|apply bd|apply bi|apply bx
theorem Om (aI:List ae)(eW:ae)(x:Int):tE aI eW x=ng aI eW (tE aI eW) x:=cd (yZ aI eW) x
def Bg (aI:List ae)(eW:ae):Option Bool:=
 bD (ρ:=Bool) (tE aI eW 0) fun u5:Unit=>some false
def lu (c_1:Contract)(self:Int→Option (Bool⊕Unit))(x2:Int):Option (Bool⊕Unit):=
 bif (decide (x2<(len c_1.Parties))) then ((aC c_1.Parties x2).bind fun e3=>(sB e3).bind fun r4=>bQ (ρ:=Bool) (bif (!r4) then (some (.inr true)) else ((rn c_1.Parties 0 x2).bind fun s6=>(aC c_1.Parties x2).bind fun e7=>(Bg s6 e7).bind fun r8=>some (.inr r8))) fun u5:Bool=>bif u5 then (some (.inl false)) else (self (ac (x2+1)))) else (some (.inr ()))
def tP (c_1:Contract): Int→Option (Bool⊕Unit):=aP (lu c_1)
theorem zh (c_1:Contract): ∀a,Fin1 fun f=>lu c_1 f a:=by
 unfold lu
 repeat first|intro _|exact aX|exact bv|apply bw|apply bc|apply bd|apply bi|apply bx
theorem Eu (c_1:Contract)(x:Int):tP c_1 x=lu c_1 (tP c_1) x:=cd (zh c_1) x
def wx (c_1:Contract):Option Bool:=
 bD (ρ:=Bool) (tP c_1 0) fun u9:Unit=>(fw (len c_1.Parties) 2 4).bind fun r10=>some r10
def no (c_1:Contract)(fj:ae)(self:Int→Option (Int⊕Unit))(x3:Int):Option (Int⊕Unit):=
 bif (decide (x3<(len c_1.Clauses))) then ((aC c_1.Clauses x3).bind fun e4=>bif (e4.Id==fj) then (some (.inl x3)) else (self (ac (x3+1)))) else (some (.inr ()))
def tM (c_1:Contract)(fj:ae): Int→Option (Int⊕Unit):=aP (no c_1 fj)
theorem ze (c_1:Contract)(fj:ae): ∀a,Fin1 fun f=>no c_1 fj f a:=by
 unfold no
 repeat first|intro _|exact aX|exact bv|apply bw|apply bc|apply bd|apply bi|apply bx
theorem Oq (c_1:Contract)(fj:ae)(x:Int):tM c_1 fj x=no c_1 fj (tM c_1 fj) x:=cd (ze c_1 fj) x
def uB (c_1:Contract)(fj:ae):Option Int:=
 bD (ρ:=Int) (tM c_1 fj 0) fun u5:Unit=>some (-1)
def F6 (hY:Int):Option Bool:=
 (fw hY 0 36524).bind fun r2=>some r2
def Bb (c_1:Condition):Option Bool:=
 bif (c_1.Op==1) then (cj (bif ((len c_1.Parts)==0) then (cj (bif (c_1.Name==([]:ae)) then (c_1.Day==0) else false) fun u3:Bool=>u3) else false) fun u2:Bool=>some u2) else (bif (c_1.Op==2) then (bD (ρ:=Bool) (bif ((len c_1.Parts)==0) then ((sB c_1.Name).bind fun r5=>cj (bif r5 then (c_1.Day==0) else false) fun u6:Bool=>some (.inr u6)) else (some (.inr false))) fun u4:Bool=>some u4) else (bif (c_1.Op==3) then (bD (ρ:=Bool) (bif ((len c_1.Parts)==0) then (bQ (ρ:=Bool) (bif (c_1.Name==([]:ae)) then ((F6 c_1.Day).bind fun r9=>some (.inr r9)) else (some (.inr false))) fun u8:Bool=>some (.inr u8)) else (some (.inr false))) fun u7:Bool=>some u7) else (bif (c_1.Op==4) then (cj (bif ((len c_1.Parts)==1) then (cj (bif (c_1.Name==([]:ae)) then (c_1.Day==0) else false) fun u11:Bool=>u11) else false) fun u10:Bool=>some u10) else (cj (bif (c_1.Op==5) then (c_1.Op==5) else (c_1.Op==6)) fun u12:Bool=>bif u12 then (cj (bif ((len c_1.Parts)==2) then (cj (bif (c_1.Name==([]:ae)) then (c_1.Day==0) else false) fun u14:Bool=>u14) else false) fun u13:Bool=>some u13) else (some false)))))
def lj (cy:Condition→Option Bool)(c_1:Condition)(self:Int→Option (Bool⊕Unit))(x3:Int):Option (Bool⊕Unit):=
 bif (decide (x3<(len c_1.Parts))) then ((aC c_1.Parts x3).bind fun e4=>(cy e4).bind fun r5=>bif (!r5) then (some (.inl false)) else (self (ac (x3+1)))) else (some (.inr ()))
def qu (cy:Condition→Option Bool)(c_1:Condition): Int→Option (Bool⊕Unit):=aP (lj cy c_1)
theorem yY (cy:Condition→Option Bool)(c_1:Condition): ∀a,Fin1 fun f=>lj cy c_1 f a:=by
 unfold lj
 repeat first|intro _|exact aX|exact bv|apply bw|apply bc|apply bd|apply bi|apply bx
theorem Ol (cy:Condition→Option Bool)(c_1:Condition)(x:Int):qu cy c_1 x=lj cy c_1 (qu cy c_1) x:=cd (yY cy c_1) x
def tD (cy:Condition→Option Bool)(c_1:Condition):Option Bool:=
 (Bb c_1).bind fun r2=>bif (!r2) then (some false) else (bD (ρ:=Bool) (qu cy c_1 0) fun u6:Unit=>some true)
def qG (cy:Condition→Option Bool)(x:Condition):Option Bool:=tD cy x
def F7 (c_1:Condition):Option Bool:=aP qG c_1
theorem UH:∀x,Fin1 fun cy=>qG cy x:=by
 unfold qG tD
 repeat first|intro _|exact aX|exact bv|exact je|exact kD|exact iz|exact jr|exact iR|exact iT|apply bw|apply bc|apply bd|apply bi|apply bx|apply ph|unfold qu|unfold lj
theorem Xp (c_1:Condition):F7 c_1=tD (aP qG) c_1:=cd UH c_1
def jT (cB:Condition→Option Int)(c_1:Condition)(self:(Int×Int)→Option (Int⊕Int))(x2:Int×Int):Option (Int⊕Int):=
 bif (decide (x2.2<(len c_1.Parts))) then ((aC c_1.Parts x2.2).bind fun e3=>(cB e3).bind fun r4=>self ((ac (x2.1+r4)),(ac (x2.2+1)))) else (some (.inr x2.1))
def lX (cB:Condition→Option Int)(c_1:Condition): (Int×Int)→Option (Int⊕Int):=aP (jT cB c_1)
theorem zd (cB:Condition→Option Int)(c_1:Condition): ∀a,Fin1 fun f=>jT cB c_1 f a:=by
 unfold jT
 repeat first|intro _|exact aX|exact bv|apply bw|apply bc|apply bd|apply bi|apply bx
theorem Ee (cB:Condition→Option Int)(c_1:Condition)(x:Int×Int):lX cB c_1 x=jT cB c_1 (lX cB c_1) x:=cd (zd cB c_1) x
def tK (cB:Condition→Option Int)(c_1:Condition):Option Int:=
 bD (ρ:=Int) (lX cB c_1 (1,0)) fun u5:Int=>some u5
def lq (cB:Condition→Option Int)(x:Condition):Option Int:=tK cB x
def JK (c_1:Condition):Option Int:=aP lq c_1
theorem UR:∀x,Fin1 fun cB=>lq cB x:=by
 unfold lq tK
 repeat first|intro _|exact aX|exact bv|exact je|exact kD|exact iz|exact jr|exact iR|exact iT|apply bw|apply bc|apply bd|apply bi|apply bx|apply ph|unfold lX|unfold jT
theorem Xr (c_1:Condition):JK c_1=tK (aP lq) c_1:=cd UR c_1
def Be (c_1:Condition):Option Bool:=
 (F7 c_1).bind fun r2=>bD (ρ:=Bool) (bif r2 then ((JK c_1).bind fun r4=>some (.inr (decide (r4≤15)))) else (some (.inr false))) fun u3:Bool=>some u3
def Bl (c_1:Contract)(i_2:Int):Option Bool:=
 (aC c_1.Clauses i_2).bind fun e3=>(sB e3.Id).bind fun r4=>bD (ρ:=Bool) (bif (!r4) then (some (.inr true)) else ((sB e3.Action).bind fun r17=>bQ (ρ:=Bool) (bif (!r17) then (some (.inr true)) else ((fw e3.Kind 1 4).bind fun r19=>bQ (ρ:=Bool) (bif (!r19) then (some (.inr true)) else ((fw e3.Party 0 (ac ((len c_1.Parties) - 1))).bind fun r21=>bQ (ρ:=Bool) (bif (!r21) then (some (.inr true)) else ((fw e3.Other 0 (ac ((len c_1.Parties) - 1))).bind fun r23=>bQ (ρ:=Bool) (bif (!r23) then (some (.inr true)) else (bQ (ρ:=Bool) (bif (e3.Party==e3.Other) then (some (.inr true)) else ((Be e3.When).bind fun r26=>some (.inr (!r26)))) fun u25:Bool=>some (.inr u25))) fun u24:Bool=>some (.inr u24))) fun u22:Bool=>some (.inr u22))) fun u20:Bool=>some (.inr u20))) fun u18:Bool=>some (.inr u18))) fun u5:Bool=>bif u5 then (some false) else ((fw e3.Amount 0 1000000).bind fun r6=>bD (ρ:=Bool) (bif (!r6) then (some (.inr true)) else ((fw e3.Within 0 400).bind fun r13=>cj (bif (!r13) then true else (cj (bif (e3.Kind != 1) then (cj (bif (e3.Amount != 0) then true else (e3.Within != 0)) fun u16:Bool=>u16) else false) fun u15:Bool=>u15)) fun u14:Bool=>some (.inr u14))) fun u7:Bool=>bif u7 then (some false) else (bif (e3.Repair==([]:ae)) then (some true) else ((uB c_1 e3.Repair).bind fun r8=>bD (ρ:=Bool) (bif (decide (r8≥0)) then (bQ (ρ:=Bool) (bif (r8 != i_2) then ((aC c_1.Clauses r8).bind fun e11=>cj (bif (e11.Kind==1) then (e3.Kind != 3) else false) fun u12:Bool=>some (.inr u12)) else (some (.inr false))) fun u10:Bool=>some (.inr u10)) else (some (.inr false))) fun u9:Bool=>some u9)))
def ln (l_8:List ae)(s_9:ae)(self:Int→Option ((List ae)⊕(ae×Int×(List ae))))(x3:Int):Option ((List ae)⊕(ae×Int×(List ae))):=
 bQ (ρ:=(List ae)) (bif (decide (x3<(len l_8))) then ((aC l_8 x3).bind fun e5=>some (.inr (Op.bytesLess e5 s_9))) else (some (.inr false))) fun u4:Bool=>bif u4 then (self (ac (x3+1))) else (some (.inr (s_9,x3,l_8)))
def tI (l_8:List ae)(s_9:ae): Int→Option ((List ae)⊕(ae×Int×(List ae))):=aP (ln l_8 s_9)
theorem zc (l_8:List ae)(s_9:ae): ∀a,Fin1 fun f=>ln l_8 s_9 f a:=by
 unfold ln
 repeat first|intro _|exact aX|exact bv|apply bw|apply bc|apply bd|apply bi|apply bx
theorem Eb (l_8:List ae)(s_9:ae)(x:Int):tI l_8 s_9 x=ln l_8 s_9 (tI l_8 s_9) x:=cd (zc l_8 s_9) x
def wm (l_8:List ae)(s_9:ae):Option (List ae):=
 bD (ρ:=(List ae)) (tI l_8 s_9 0) fun u6:ae×Int×(List ae)=>bD (ρ:=(List ae)) (bif (decide (u6.2.1<(len u6.2.2))) then ((aC u6.2.2 u6.2.1).bind fun e15=>some (.inr (e15==u6.1))) else (some (.inr false))) fun u7:Bool=>bif u7 then (some u6.2.2) else ((gb u6.2.2.length 0 u6.2.1).bind fun s8=>(gF u6.2.2 (0+Int.toNat (0)) (Int.toNat u6.2.1 - Int.toNat (0))).bind fun p9=>(iy 16 ([]:List ae) p9).bind fun a10=>(iy 16 a10 [u6.1]).bind fun a11=>(gb u6.2.2.length u6.2.1 (len u6.2.2)).bind fun s12=>(gF u6.2.2 (0+Int.toNat u6.2.1) (Int.toNat (len u6.2.2) - Int.toNat u6.2.1)).bind fun p13=>(iy 16 a11 p13).bind fun a14=>some a14)
def jS (cz:((List ae)×Condition)→Option (List ae))(l_4:List ae)(c_5:Condition)(self:(Int×(List ae))→Option ((List ae)⊕(List ae)))(x4:Int×(List ae)):Option ((List ae)⊕(List ae)):=
 bif (decide (x4.1<(len c_5.Parts))) then ((aC c_5.Parts x4.1).bind fun e5=>(cz (x4.2,e5)).bind fun r6=>self ((ac (x4.1+1)),r6)) else (some (.inr x4.2))
def lW (cz:((List ae)×Condition)→Option (List ae))(l_4:List ae)(c_5:Condition): (Int×(List ae))→Option ((List ae)⊕(List ae)):=aP (jS cz l_4 c_5)
theorem zb (cz:((List ae)×Condition)→Option (List ae))(l_4:List ae)(c_5:Condition): ∀a,Fin1 fun f=>jS cz l_4 c_5 f a:=by
 unfold jS
 repeat first|intro _|exact aX|exact bv|apply bw|apply bc|apply bd|apply bi|apply bx
theorem D8 (cz:((List ae)×Condition)→Option (List ae))(l_4:List ae)(c_5:Condition)(x:Int×(List ae)):lW cz l_4 c_5 x=jS cz l_4 c_5 (lW cz l_4 c_5) x:=cd (zb cz l_4 c_5) x
def tG (cz:((List ae)×Condition)→Option (List ae))(l_4:List ae)(c_5:Condition):Option (List ae):=
 bif (c_5.Op==2) then ((wm l_4 c_5.Name).bind fun r3=>some r3) else (bD (ρ:=(List ae)) (lW cz l_4 c_5 (0,l_4)) fun u7:(List ae)=>some u7)
def lm (cz:((List ae)×Condition)→Option (List ae))(x:(List ae)×Condition):Option (List ae):=tG cz x.1 x.2
def JH (l_4:List ae)(c_5:Condition):Option (List ae):=aP lm (l_4,c_5)
theorem UM:∀x,Fin1 fun cz=>lm cz x:=by
 unfold lm tG
 repeat first|intro _|exact aX|exact bv|exact je|exact kD|exact iz|exact jr|exact iR|exact iT|apply bw|apply bc|apply bd|apply bi|apply bx|apply ph|unfold lW|unfold jS
theorem Xq (l_4:List ae)(c_5:Condition):JH l_4 c_5=tG (aP lm) l_4 c_5:=cd UM (l_4,c_5)
def ls (c_1:Contract)(self:(Int×(List ae))→Option ((List ae)⊕(List ae)))(x2:Int×(List ae)):Option ((List ae)⊕(List ae)):=
 bif (decide (x2.1<(len c_1.Clauses))) then ((aC c_1.Clauses x2.1).bind fun e3=>(wm x2.2 e3.Action).bind fun r4=>(aC c_1.Clauses x2.1).bind fun e5=>(JH r4 e5.When).bind fun r6=>self ((ac (x2.1+1)),r6)) else (some (.inr x2.2))
def np (c_1:Contract): (Int×(List ae))→Option ((List ae)⊕(List ae)):=aP (ls c_1)
theorem zg (c_1:Contract): ∀a,Fin1 fun f=>ls c_1 f a:=by
 unfold ls
 repeat first|intro _|exact aX|exact bv|apply bw|apply bc|apply bd|apply bi|apply bx
theorem Ep (c_1:Contract)(x:Int×(List ae)):np c_1 x=ls c_1 (np c_1) x:=cd (zg c_1) x
def uD (c_1:Contract):Option (List ae):=
 bD (ρ:=(List ae)) (np c_1 (0,[])) fun u7:(List ae)=>some u7
def lr (c_1:Contract)(self:Int→Option (Bool⊕Unit))(x4:Int):Option (Bool⊕Unit):=
 bif (decide (x4<(len c_1.Clauses))) then ((aC c_1.Clauses x4).bind fun e5=>(uB c_1 e5.Id).bind fun r6=>bQ (ρ:=Bool) (bif (r6 != x4) then (some (.inr true)) else ((Bl c_1 x4).bind fun r8=>some (.inr (!r8)))) fun u7:Bool=>bif u7 then (some (.inl false)) else (self (ac (x4+1)))) else (some (.inr ()))
def lY (c_1:Contract): Int→Option (Bool⊕Unit):=aP (lr c_1)
theorem zf (c_1:Contract): ∀a,Fin1 fun f=>lr c_1 f a:=by
 unfold lr
 repeat first|intro _|exact aX|exact bv|apply bw|apply bc|apply bd|apply bi|apply bx
theorem Em (c_1:Contract)(x:Int):lY c_1 x=lr c_1 (lY c_1) x:=cd (zf c_1) x
def Bn (c_1:Contract):Option Bool:=
 (fw (len c_1.Clauses) 1 12).bind fun r2=>bD (ρ:=Bool) (bif (!r2) then (some (.inr true)) else ((wx c_1).bind fun r11=>some (.inr (!r11)))) fun u3:Bool=>bif u3 then (some false) else (bD (ρ:=Bool) (lY c_1 0) fun u9:Unit=>(uD c_1).bind fun r10=>some (decide ((len r10)≤16)))
def Br (a_1:Event)(b_2:Event):Option Int:=
 bD (ρ:=Int) (bif (a_1.Day != b_2.Day) then (some (.inr (a_1.Day,b_2.Day))) else (bQ (ρ:=Int) (bif (a_1.Party != b_2.Party) then (some (.inr (a_1.Party,b_2.Party))) else (bif (Op.bytesLess a_1.Action b_2.Action) then (some (.inl (-1))) else (bif (!(Op.bytesLess a_1.Action b_2.Action||a_1.Action==b_2.Action)) then (some (.inl 1)) else (some (.inr (a_1.Amount,b_2.Amount)))))) fun u4:Int×Int=>some (.inr (u4.1,u4.2)))) fun u3:Int×Int=>bif (decide (u3.1<u3.2)) then (some (-1)) else (bif (decide (u3.1>u3.2)) then (some 1) else (some 0))
def lx (aI:List Event)(x2:Int×(List Event))(self:Int→Option ((List Event)⊕Int))(x3:Int):Option ((List Event)⊕Int):=
 bQ (ρ:=(List Event)) (bif (decide (x3>0)) then ((aC aI x2.1).bind fun e5=>(aC x2.2 (ac (x3 - 1))).bind fun e6=>(Br e5 e6).bind fun r7=>some (.inr (decide (r7<0)))) else (some (.inr false))) fun u4:Bool=>bif u4 then (self (ac (x3 - 1))) else (some (.inr x3))
def qx (aI:List Event)(x2:Int×(List Event)):Int→Option ((List Event)⊕Int):=aP (lx aI x2)
theorem zj (aI:List Event)(x2:Int×(List Event)):∀a,Fin1 fun f=>lx aI x2 f a:=by
 unfold lx
 repeat first|intro _|exact aX|exact bv|apply bw|apply bc|apply bd|apply bi|apply bx
theorem EC (aI:List Event)(x2:Int×(List Event))(x:Int):qx aI x2 x=lx aI x2 (qx aI x2) x:=cd (zj aI x2) x
def lw (aI:List Event)(self:(Int×(List Event))→Option ((List Event)⊕(List Event)))(x2:Int×(List Event)):Option ((List Event)⊕(List Event)):=
 bif (decide (x2.1<(len aI))) then (bQ (ρ:=(List Event)) (qx aI x2 (len x2.2)) fun u8:Int=>(gb x2.2.length 0 u8).bind fun s9=>(gF x2.2 (0+Int.toNat (0)) (Int.toNat u8 - Int.toNat (0))).bind fun p10=>(iy 40 ([]:List Event) p10).bind fun a11=>(aC aI x2.1).bind fun e12=>(iy 40 a11 [e12]).bind fun a13=>(gb x2.2.length u8 (len x2.2)).bind fun s14=>(gF x2.2 (0+Int.toNat u8) (Int.toNat (len x2.2) - Int.toNat u8)).bind fun p15=>(iy 40 a13 p15).bind fun a16=>self ((ac (x2.1+1)),a16)) else (some (.inr x2.2))
def qw (aI:List Event): (Int×(List Event))→Option ((List Event)⊕(List Event)):=aP (lw aI)
theorem zi (aI:List Event): ∀a,Fin1 fun f=>lw aI f a:=by
 unfold lw
 repeat first|intro _|exact aX|exact bv|apply bw|apply bc|apply bd|apply bi|apply bx
theorem EB (aI:List Event)(x:Int×(List Event)):qw aI x=lw aI (qw aI) x:=cd (zi aI) x
def wz (aI:List Event):Option (List Event):=
 bD (ρ:=(List Event)) (qw aI (0,[])) fun u17:(List Event)=>some u17
def li (c_1:Contract)(x2:Int×(List Event))(e3:Clause)(self:(Bool×Int)→Option ((List Event)⊕Bool))(x4:Bool×Int):Option ((List Event)⊕Bool):=
 bif (decide (x4.2<(len x2.2))) then (bQ (ρ:=(List Event)) (bif x4.1 then (some (.inr true)) else ((aC x2.2 x4.2).bind fun e6=>some (.inr (e6.Day==0&&(e6.Party==e3.Party&&(e6.Action==e3.Action&&(e6.Amount==e3.Amount&&true))))))) fun u5:Bool=>self (u5,(ac (x4.2+1)))) else (some (.inr x4.1))
def qt (c_1:Contract)(x2:Int×(List Event))(e3:Clause):(Bool×Int)→Option ((List Event)⊕Bool):=aP (li c_1 x2 e3)
theorem yX (c_1:Contract)(x2:Int×(List Event))(e3:Clause):∀a,Fin1 fun f=>li c_1 x2 e3 f a:=by
 unfold li
 repeat first|intro _|exact aX|exact bv|apply bw|apply bc|apply bd|apply bi|apply bx
theorem DW (c_1:Contract)(x2:Int×(List Event))(e3:Clause)(x:Bool×Int):qt c_1 x2 e3 x=li c_1 x2 e3 (qt c_1 x2 e3) x:=cd (yX c_1 x2 e3) x
def lh (c_1:Contract)(self:(Int×(List Event))→Option ((List Event)⊕(List Event)))(x2:Int×(List Event)):Option ((List Event)⊕(List Event)):=
 bif (decide (x2.1<(len c_1.Clauses))) then ((aC c_1.Clauses x2.1).bind fun e3=>bQ (ρ:=(List Event)) (qt c_1 x2 e3 (false,0)) fun u7:Bool=>bQ (ρ:=(List Event)) (bif (!u7) then ((iy 40 x2.2 [(Event.mk 0 e3.Party e3.Action e3.Amount)]).bind fun a9=>some (.inr a9)) else (some (.inr x2.2))) fun u8:(List Event)=>self ((ac (x2.1+1)),u8)) else (some (.inr x2.2))
def qs (c_1:Contract): (Int×(List Event))→Option ((List Event)⊕(List Event)):=aP (lh c_1)
theorem yW (c_1:Contract): ∀a,Fin1 fun f=>lh c_1 f a:=by
 unfold lh
 repeat first|intro _|exact aX|exact bv|apply bw|apply bc|apply bd|apply bi|apply bx
theorem DV (c_1:Contract)(x:Int×(List Event)):qs c_1 x=lh c_1 (qs c_1) x:=cd (yW c_1) x
def A8 (c_1:Contract):Option (List Event):=
 bD (ρ:=(List Event)) (qs c_1 (0,[])) fun u10:(List Event)=>(wz u10).bind fun r11=>some r11
def A6 (c_1:Contract):Option ((List Event)×Bool):=
 (Bn c_1).bind fun r2=>bif (!r2) then (some ([],false)) else ((A8 c_1).bind fun r3=>some (r3,true))
def oz (n_1:Int)(oc:Int)(lG:Int):Option Bool:=
 cj (bif (decide (n_1≥oc)) then (decide (n_1≤lG)) else false) fun u4:Bool=>some u4
def Sj (s_1:ae)(c_2:Int):Option Int:=
 (rp s_1 c_2).bind fun r3=>some r3
def Si (s_1:ae)(bh:ae):Option Int:=
 cj (bif ((len bh)==0) then true else (bh==s_1)) fun u3:Bool=>bif u3 then (some 0) else (bif ((len bh)==1) then ((aC bh 0).bind fun c4=>(Sj s_1 (c4.toNat:Int)).bind fun r5=>some r5) else (bif (decide ((len bh)≥(len s_1))) then (some (-1)) else none))
def F9 (s_1:ae)(bh:ae):Option Int:=
 (Si s_1 bh).bind fun r3=>some r3
def rS (s_1:ae)(bh:ae)(self:(ae×Int)→Option (Int⊕Unit))(x5:ae×Int):Option (Int⊕Unit):=
 (F9 x5.1 bh).bind fun r6=>bif (r6==(-1)) then (some (.inl x5.2)) else ((rn x5.1 (ac (r6+(len bh))) (len x5.1)).bind fun s7=>self (s7,(ac (x5.2+1))))
def Nx (s_1:ae)(bh:ae): (ae×Int)→Option (Int⊕Unit):=aP (rS s_1 bh)
theorem MF (s_1:ae)(bh:ae): ∀a,Fin1 fun f=>rS s_1 bh f a:=by
 unfold rS
 repeat first|intro _|exact aX|exact bv|apply bw|apply bc|apply bd|apply bi|apply bx
def JT (s_1:ae)(bh:ae):Option Int:=
 bif ((len bh)==0) then none else (bif ((len bh)==1) then ((aC bh 0).bind fun c3=>(xt s_1 (c3.toNat:Int)).bind fun r4=>some r4) else (bD (ρ:=Int) (Nx s_1 bh (s_1,0)) fun u8:Unit=>none))
def rT (s_1:ae)(eb:ae)(dN:Int)(n_4:Int)(u5:Int)(self:(ae×Int×(List ae))→Option ((List ae)⊕(ae×Int×(List ae))))(x7:ae×Int×(List ae)):Option ((List ae)⊕(ae×Int×(List ae))):=
 bif (decide (x7.2.1<(ac ((if (ac ((len s_1)+1))<u5 then (ac ((len s_1)+1)) else u5) - 1)))) then ((F9 x7.1 eb).bind fun r8=>bif (decide (r8<0)) then (some (.inr (x7.1,x7.2.1,x7.2.2))) else ((rn x7.1 0 (ac (r8+dN))).bind fun s9=>(aC x7.2.2 x7.2.1).bind fun e10=>(rn x7.1 (ac (r8+(len eb))) (len x7.1)).bind fun s11=>self (s11,(ac (x7.2.1+1)),(aK x7.2.2 x7.2.1 s9)))) else (some (.inr (x7.1,x7.2.1,x7.2.2)))
def xN (s_1:ae)(eb:ae)(dN:Int)(n_4:Int)(u5:Int):(ae×Int×(List ae))→Option ((List ae)⊕(ae×Int×(List ae))):=aP (rT s_1 eb dN n_4 u5)
theorem zk (s_1:ae)(eb:ae)(dN:Int)(n_4:Int)(u5:Int):∀a,Fin1 fun f=>rT s_1 eb dN n_4 u5 f a:=by
 unfold rT
 repeat first|intro _|exact aX|exact bv|apply bw|apply bc|apply bd|apply bi|apply bx
def JV (s_1:ae)(eb:ae)(dN:Int)(n_4:Int):Option (List ae):=
 bif (n_4==0) then (some []) else (bif (eb==([]:ae)) then none else (bD (ρ:=(List ae)) (bif (decide (n_4<0)) then ((JT s_1 eb).bind fun r16=>some (.inr (ac (r16+1)))) else (some (.inr n_4))) fun u5:Int=>(vu 16 [] (if (ac ((len s_1)+1))<u5 then (ac ((len s_1)+1)) else u5)).bind fun m6=>bD (ρ:=(List ae)) (xN s_1 eb dN n_4 u5 (s_1,0,m6)) fun u12:ae×Int×(List ae)=>(aC u12.2.2 u12.2.1).bind fun e13=>(gb (aK u12.2.2 u12.2.1 u12.1).length 0 (ac (u12.2.1+1))).bind fun s14=>(gF (aK u12.2.2 u12.2.1 u12.1) (0+Int.toNat (0)) (Int.toNat (ac (u12.2.1+1)) - Int.toNat (0))).bind fun p15=>some p15))
def Bv (s_1:ae)(eb:ae):Option (List ae):=
 (JV s_1 eb 0 (-1)).bind fun r3=>some r3
def lb (s_1:List ae)(v_2:ae)(self:Int→Option (Int⊕Unit))(x3:Int):Option (Int⊕Unit):=
 bif (decide (x3<(len s_1))) then ((aC s_1 x3).bind fun e4=>bif (v_2==e4) then (some (.inl x3)) else (self (ac (x3+1)))) else (some (.inr ()))
def qr (s_1:List ae)(v_2:ae): Int→Option (Int⊕Unit):=aP (lb s_1 v_2)
theorem yS (s_1:List ae)(v_2:ae): ∀a,Fin1 fun f=>lb s_1 v_2 f a:=by
 unfold lb
 repeat first|intro _|exact aX|exact bv|apply bw|apply bc|apply bd|apply bi|apply bx
theorem Dc (s_1:List ae)(v_2:ae)(x:Int):qr s_1 v_2 x=lb s_1 v_2 (qr s_1 v_2) x:=cd (yS s_1 v_2) x
def AH (s_1:List ae)(v_2:ae):Option Int:=
 bD (ρ:=Int) (qr s_1 v_2 0) fun u5:Unit=>some (-1)
def sx (s_1:List ae)(v_2:ae):Option Bool:=
 (AH s_1 v_2).bind fun r3=>some (decide (r3≥0))
def oL (s_1:ae)(self:Int→Option (Bool⊕Unit))(x4:Int):Option (Bool⊕Unit):=
 bif (decide (x4<(len s_1))) then ((aC s_1 x4).bind fun c5=>cj (bif (decide ((c5.toNat:Int)<97)) then (cj (bif (decide ((c5.toNat:Int)<48)) then true else (decide ((c5.toNat:Int)>57))) fun u7:Bool=>u7) else (cj (bif (decide ((c5.toNat:Int)>122)) then (cj (bif (decide ((c5.toNat:Int)<48)) then true else (decide ((c5.toNat:Int)>57))) fun u9:Bool=>u9) else false) fun u8:Bool=>u8)) fun u6:Bool=>bif u6 then (some (.inl false)) else (self (ac (x4+1)))) else (some (.inr ()))
def wD (s_1:ae): Int→Option (Bool⊕Unit):=aP (oL s_1)
theorem EQ (s_1:ae): ∀a,Fin1 fun f=>oL s_1 f a:=by
 unfold oL
 repeat first|intro _|exact aX|exact bv|apply bw|apply bc|apply bd|apply bi|apply bx
theorem Sc (s_1:ae)(x:Int):wD s_1 x=oL s_1 (wD s_1) x:=cd (EQ s_1) x
def wC (s_1:ae):Option Bool:=
 (oz (len s_1) 1 8).bind fun r2=>bD (ρ:=Bool) (bif (!r2) then (some (.inr true)) else ((aC s_1 0).bind fun c13=>bQ (ρ:=Bool) (bif (decide ((c13.toNat:Int)<97)) then (some (.inr true)) else ((aC s_1 0).bind fun c15=>some (.inr (decide ((c15.toNat:Int)>122))))) fun u14:Bool=>some (.inr u14))) fun u3:Bool=>bif u3 then (some false) else (bD (ρ:=Bool) (wD s_1 0) fun u10:Unit=>(Bv ([116,114,117,101,32,102,114,111,109,32,110,111,116,32,97,110,100,32,111,114,32,98,111,116,104,32,101,105,116,104,101,114,32,105,116,32,105,110]:ae) ([32]:ae)).bind fun r11=>(sx r11 s_1).bind fun r12=>some (!r12))
def mP (aI:List ae)(self:Int→Option (Bool⊕Unit))(x2:Int):Option (Bool⊕Unit):=
 bif (decide (x2<(len aI))) then ((aC aI x2).bind fun e3=>(wC e3).bind fun r4=>bQ (ρ:=Bool) (bif (!r4) then (some (.inr true)) else ((rn aI 0 x2).bind fun s6=>(sx s6 e3).bind fun r7=>some (.inr r7))) fun u5:Bool=>bif u5 then (some (.inl false)) else (self (ac (x2+1)))) else (some (.inr ()))
def wE (aI:List ae): Int→Option (Bool⊕Unit):=aP (mP aI)
theorem EW (aI:List ae): ∀a,Fin1 fun f=>mP aI f a:=by
 unfold mP
 repeat first|intro _|exact aX|exact bv|apply bw|apply bc|apply bd|apply bi|apply bx
theorem G5 (aI:List ae)(x:Int):wE aI x=mP aI (wE aI) x:=cd (EW aI) x
def J0 (aI:List ae):Option Bool:=
 bD (ρ:=Bool) (wE aI 0) fun u8:Unit=>(oz (len aI) 2 4).bind fun r9=>some r9
def Sf (x_1:Clause)(a_2:ae):Option Bool:=
 some (x_1.Id==a_2)
def nf (s_1:List Clause)(f_2:ae)(self:Int→Option (Int⊕Unit))(x3:Int):Option (Int⊕Unit):=
 bif (decide (x3<(len s_1))) then ((aC s_1 x3).bind fun e4=>(Sf e4 f_2).bind fun r5=>bif r5 then (some (.inl x3)) else (self (ac (x3+1)))) else (some (.inr ()))
def tv (s_1:List Clause)(f_2:ae): Int→Option (Int⊕Unit):=aP (nf s_1 f_2)
theorem yR (s_1:List Clause)(f_2:ae): ∀a,Fin1 fun f=>nf s_1 f_2 f a:=by
 unfold nf
 repeat first|intro _|exact aX|exact bv|apply bw|apply bc|apply bd|apply bi|apply bx
theorem Oj (s_1:List Clause)(f_2:ae)(x:Int):tv s_1 f_2 x=nf s_1 f_2 (tv s_1 f_2) x:=cd (yR s_1 f_2) x
def FZ (s_1:List Clause)(f_2:ae):Option Int:=
 bD (ρ:=Int) (tv s_1 f_2 0) fun u6:Unit=>some (-1)
def EX (c_1:Contract)(fj:ae):Option Int:=
 (FZ c_1.Clauses fj).bind fun r3=>some r3
def tR (hY:Int):Option Bool:=
 (oz hY 0 36524).bind fun r2=>some r2
def lz (bg:(Condition×Int)→Option Int)(c_1:Condition)(cM:Int)(self:(Int×Int)→Option (Int⊕Int))(x5:Int×Int):Option (Int⊕Int):=
 bif (decide (x5.2<(len c_1.Parts))) then ((aC c_1.Parts x5.2).bind fun e6=>(bg (e6,x5.1)).bind fun r7=>bif (decide (r7<0)) then (some (.inl (-1))) else (self (r7,(ac (x5.2+1))))) else (some (.inr x5.1))
def mr (bg:(Condition×Int)→Option Int)(c_1:Condition)(cM:Int): (Int×Int)→Option (Int⊕Int):=aP (lz bg c_1 cM)
theorem E0 (bg:(Condition×Int)→Option Int)(c_1:Condition)(cM:Int): ∀a,Fin1 fun f=>lz bg c_1 cM f a:=by
 unfold lz
 repeat first|intro _|exact aX|exact bv|apply bw|apply bc|apply bd|apply bi|apply bx
theorem G6 (bg:(Condition×Int)→Option Int)(c_1:Condition)(cM:Int)(x:Int×Int):mr bg c_1 cM x=lz bg c_1 cM (mr bg c_1 cM) x:=cd (E0 bg c_1 cM) x
def xQ (bg:(Condition×Int)→Option Int)(c_1:Condition)(cM:Int):Option Int:=
 bD (ρ:=Int) (bif (decide ((ac (cM+1))>15)) then (some (.inr true)) else ((oz c_1.Op 1 6).bind fun r20=>bQ (ρ:=Int) (bif (!r20) then (some (.inr true)) else ((aC [(-1),0,0,0,1,2,2] c_1.Op).bind fun e22=>some (.inr ((len c_1.Parts) != e22)))) fun u21:Bool=>some (.inr u21))) fun u3:Bool=>bif u3 then (some (-1)) else (bD (ρ:=Int) (bif (!((c_1.Op==2)==(!(c_1.Name==([]:ae))))) then (some (.inr true)) else (bQ (ρ:=Int) (bif (c_1.Op==2) then ((wC c_1.Name).bind fun r10=>bQ (ρ:=Int) (bif (!r10) then (some (.inr true)) else (bQ (ρ:=Int) (bif (c_1.Op != 3) then (bQ (ρ:=Int) (bif (c_1.Day != 0) then (some (.inr true)) else ((tR c_1.Day).bind fun r14=>some (.inr (!r14)))) fun u13:Bool=>some (.inr u13)) else ((tR c_1.Day).bind fun r15=>some (.inr (!r15)))) fun u12:Bool=>some (.inr u12))) fun u11:Bool=>some (.inr u11)) else (bQ (ρ:=Int) (bif (c_1.Op != 3) then (bQ (ρ:=Int) (bif (c_1.Day != 0) then (some (.inr true)) else ((tR c_1.Day).bind fun r18=>some (.inr (!r18)))) fun u17:Bool=>some (.inr u17)) else ((tR c_1.Day).bind fun r19=>some (.inr (!r19)))) fun u16:Bool=>some (.inr u16))) fun u9:Bool=>some (.inr u9))) fun u4:Bool=>bif u4 then (some (-1)) else (bD (ρ:=Int) (mr bg c_1 cM ((ac (cM+1)),0)) fun u8:Int=>some u8))
def mD (bg:(Condition×Int)→Option Int)(x:Condition×Int):Option Int:=xQ bg x.1 x.2
def Sg (c_1:Condition)(cM:Int):Option Int:=aP mD (c_1,cM)
theorem XE:∀x,Fin1 fun bg=>mD bg x:=by
 unfold mD xQ
 repeat first|intro _|exact aX|exact bv|exact je|exact kD|exact iz|exact jr|exact iR|exact iT|apply bw|apply bc|apply bd|apply bi|apply bx|apply ph|unfold mr|unfold lz
theorem Z4 (c_1:Condition)(cM:Int):Sg c_1 cM=xQ (aP mD) c_1 cM:=cd XE (c_1,cM)
def JY (c_1:Condition):Option Bool:=
 (Sg c_1 0).bind fun r2=>some (decide (r2>0))
def J2 (c_1:Contract)(i_2:Int):Option Bool:=
 (aC c_1.Clauses i_2).bind fun e3=>(wC e3.Id).bind fun r4=>bD (ρ:=Bool) (bif (!r4) then (some (.inr true)) else ((EX c_1 e3.Id).bind fun r23=>bQ (ρ:=Bool) (bif (r23 != i_2) then (some (.inr true)) else ((wC e3.Action).bind fun r25=>bQ (ρ:=Bool) (bif (!r25) then (some (.inr true)) else ((oz e3.Kind 1 4).bind fun r27=>some (.inr (!r27)))) fun u26:Bool=>some (.inr u26))) fun u24:Bool=>some (.inr u24))) fun u5:Bool=>bif u5 then (some false) else ((oz e3.Party 0 (ac ((len c_1.Parties) - 1))).bind fun r6=>bD (ρ:=Bool) (bif (!r6) then (some (.inr true)) else ((oz e3.Other 0 (ac ((len c_1.Parties) - 1))).bind fun r19=>bQ (ρ:=Bool) (bif (!r19) then (some (.inr true)) else (bQ (ρ:=Bool) (bif (e3.Party==e3.Other) then (some (.inr true)) else ((JY e3.When).bind fun r22=>some (.inr (!r22)))) fun u21:Bool=>some (.inr u21))) fun u20:Bool=>some (.inr u20))) fun u7:Bool=>bif u7 then (some false) else ((oz e3.Amount 0 1000000).bind fun r8=>bD (ρ:=Bool) (bif (!r8) then (some (.inr true)) else ((oz e3.Within 0 400).bind fun r15=>cj (bif (!r15) then true else (cj (bif (e3.Kind != 1) then (cj (bif (e3.Amount != 0) then true else (e3.Within != 0)) fun u18:Bool=>u18) else false) fun u17:Bool=>u17)) fun u16:Bool=>some (.inr u16))) fun u9:Bool=>bif u9 then (some false) else (bif (e3.Repair==([]:ae)) then (some true) else ((EX c_1 e3.Repair).bind fun r10=>bD (ρ:=Bool) (bif (e3.Kind != 3) then (bQ (ρ:=Bool) (bif (decide (r10≥0)) then (bQ (ρ:=Bool) (bif (r10 != i_2) then ((aC c_1.Clauses r10).bind fun e14=>some (.inr (e14.Kind==1))) else (some (.inr false))) fun u13:Bool=>some (.inr u13)) else (some (.inr false))) fun u12:Bool=>some (.inr u12)) else (some (.inr false))) fun u11:Bool=>some u11))))
def ly (cH:(Condition×(List ae))→Option (List ae))(c_3:Condition)(dU:List ae)(self:(Int×(List ae))→Option ((List ae)⊕(List ae)))(x4:Int×(List ae)):Option ((List ae)⊕(List ae)):=
 bif (decide (x4.1<(len c_3.Parts))) then ((aC c_3.Parts x4.1).bind fun e5=>(cH (e5,x4.2)).bind fun r6=>self ((ac (x4.1+1)),r6)) else (some (.inr x4.2))
def nL (cH:(Condition×(List ae))→Option (List ae))(c_3:Condition)(dU:List ae): (Int×(List ae))→Option ((List ae)⊕(List ae)):=aP (ly cH c_3 dU)
theorem EU (cH:(Condition×(List ae))→Option (List ae))(c_3:Condition)(dU:List ae): ∀a,Fin1 fun f=>ly cH c_3 dU f a:=by
 unfold ly
 repeat first|intro _|exact aX|exact bv|apply bw|apply bc|apply bd|apply bi|apply bx
theorem G4 (cH:(Condition×(List ae))→Option (List ae))(c_3:Condition)(dU:List ae)(x:Int×(List ae)):nL cH c_3 dU x=ly cH c_3 dU (nL cH c_3 dU) x:=cd (EU cH c_3 dU) x
def xP (cH:(Condition×(List ae))→Option (List ae))(c_3:Condition)(dU:List ae):Option (List ae):=
 bD (ρ:=(List ae)) (bif (c_3.Op==2) then ((iy 16 dU [c_3.Name]).bind fun a8=>some (.inr a8)) else (some (.inr dU))) fun u3:(List ae)=>bD (ρ:=(List ae)) (nL cH c_3 dU (0,u3)) fun u7:(List ae)=>some u7
def nK (cH:(Condition×(List ae))→Option (List ae))(x:Condition×(List ae)):Option (List ae):=xP cH x.1 x.2
def Sd (c_3:Condition)(dU:List ae):Option (List ae):=aP nK (c_3,dU)
theorem Xz:∀x,Fin1 fun cH=>nK cH x:=by
 unfold nK xP
 repeat first|intro _|exact aX|exact bv|exact je|exact kD|exact iz|exact jr|exact iR|exact iT|apply bw|apply bc|apply bd|apply bi|apply bx|apply ph|unfold nL|unfold ly
theorem Z3 (c_3:Condition)(dU:List ae):Sd c_3 dU=xP (aP nK) c_3 dU:=cd Xz (c_3,dU)
def la (s_2:List ae)(x2:Int)(self:(Int×Int×(List ae))→Option ((List ae)⊕(Int×(List ae))))(x6:Int×Int×(List ae)):Option ((List ae)⊕(Int×(List ae))):=
 bif (decide (x6.2.1<(((Int.toNat (len s_2) - Int.toNat x2):Nat):Int))) then ((nX x6.2.2 (0+Int.toNat x2) (Int.toNat (len s_2) - Int.toNat x2) x6.2.1).bind fun e7=>(nX x6.2.2 (0+Int.toNat x2) (Int.toNat (len s_2) - Int.toNat x2) (ac (x6.2.1 - 1))).bind fun e8=>bQ (ρ:=(List ae)) (bif (!(e7==e8)) then ((nX x6.2.2 (0+Int.toNat x2) (Int.toNat (len s_2) - Int.toNat x2) x6.2.1).bind fun e10=>(aC x6.2.2 x6.1).bind fun e11=>some (.inr ((ac (x6.1+1)),(aK x6.2.2 x6.1 e10)))) else (some (.inr (x6.1,x6.2.2)))) fun u9:Int×(List ae)=>self (u9.1,(ac (x6.2.1+1)),u9.2)) else (some (.inr (x6.1,x6.2.2)))
def kz (s_2:List ae)(x2:Int):(Int×Int×(List ae))→Option ((List ae)⊕(Int×(List ae))):=aP (la s_2 x2)
theorem yQ (s_2:List ae)(x2:Int):∀a,Fin1 fun f=>la s_2 x2 f a:=by
 unfold la
 repeat first|intro _|exact aX|exact bv|apply bw|apply bc|apply bd|apply bi|apply bx
theorem C5 (s_2:List ae)(x2:Int)(x:Int×Int×(List ae)):kz s_2 x2 x=la s_2 x2 (kz s_2 x2) x:=cd (yQ s_2 x2) x
def kZ (s_2:List ae)(self:Int→Option ((List ae)⊕(List ae)))(x2:Int):Option ((List ae)⊕(List ae)):=
 bif (decide (x2<(len s_2))) then ((aC s_2 x2).bind fun e3=>(aC s_2 (ac (x2 - 1))).bind fun e4=>bif (e3==e4) then ((gb s_2.length x2 (len s_2)).bind fun s5=>bQ (ρ:=(List ae)) (kz s_2 x2 (x2,1,s_2)) fun u15:Int×(List ae)=>(gb u15.2.length u15.1 (len u15.2)).bind fun s16=>(uK u15.2 (0+Int.toNat u15.1) (Int.toNat (len u15.2) - Int.toNat u15.1) []).bind fun k17=>(gb k17.length 0 u15.1).bind fun s18=>(gF k17 (0+Int.toNat (0)) (Int.toNat u15.1 - Int.toNat (0))).bind fun p19=>some (.inl p19)) else (self (ac (x2+1)))) else (some (.inr s_2))
def qq (s_2:List ae): Int→Option ((List ae)⊕(List ae)):=aP (kZ s_2)
theorem yP (s_2:List ae): ∀a,Fin1 fun f=>kZ s_2 f a:=by
 unfold kZ
 repeat first|intro _|exact aX|exact bv|apply bw|apply bc|apply bd|apply bi|apply bx
theorem C4 (s_2:List ae)(x:Int):qq s_2 x=kZ s_2 (qq s_2) x:=cd (yP s_2) x
def AE (s_2:List ae):Option (List ae):=
 bif (decide ((len s_2)<2)) then (some s_2) else (bD (ρ:=(List ae)) (qq s_2 1) fun u20:(List ae)=>some u20)
def J7 (jL:List ae):Option (List ae):=
 (uq jL).bind fun r2=>bif Nat.beq r2.length jL.length then ((AE r2).bind fun r4=>some r4) else none
def mQ (c_1:Contract)(self:(Int×(List ae))→Option ((List ae)⊕(List ae)))(x2:Int×(List ae)):Option ((List ae)⊕(List ae)):=
 bif (decide (x2.1<(len c_1.Clauses))) then ((aC c_1.Clauses x2.1).bind fun e3=>(iy 16 x2.2 [e3.Action]).bind fun a4=>(Sd e3.When a4).bind fun r5=>self ((ac (x2.1+1)),r5)) else (some (.inr x2.2))
def pA (c_1:Contract): (Int×(List ae))→Option ((List ae)⊕(List ae)):=aP (mQ c_1)
theorem E1 (c_1:Contract): ∀a,Fin1 fun f=>mQ c_1 f a:=by
 unfold mQ
 repeat first|intro _|exact aX|exact bv|apply bw|apply bc|apply bd|apply bi|apply bx
theorem G7 (c_1:Contract)(x:Int×(List ae)):pA c_1 x=mQ c_1 (pA c_1) x:=cd (E1 c_1) x
def J1 (c_1:Contract):Option (List ae):=
 bD (ρ:=(List ae)) (pA c_1 (0,[])) fun u6:(List ae)=>(J7 u6).bind fun r7=>some r7
def mO (c_1:Contract)(self:Int→Option (Bool⊕Unit))(x4:Int):Option (Bool⊕Unit):=
 bif (decide (x4<(len c_1.Clauses))) then ((J2 c_1 x4).bind fun r5=>bif (!r5) then (some (.inl false)) else (self (ac (x4+1)))) else (some (.inr ()))
def nJ (c_1:Contract): Int→Option (Bool⊕Unit):=aP (mO c_1)
theorem EN (c_1:Contract): ∀a,Fin1 fun f=>mO c_1 f a:=by
 unfold mO
 repeat first|intro _|exact aX|exact bv|apply bw|apply bc|apply bd|apply bi|apply bx
theorem G2 (c_1:Contract)(x:Int):nJ c_1 x=mO c_1 (nJ c_1) x:=cd (EN c_1) x
def JZ (c_1:Contract):Option Bool:=
 (J0 c_1.Parties).bind fun r2=>bD (ρ:=Bool) (bif (!r2) then (some (.inr true)) else ((oz (len c_1.Clauses) 1 12).bind fun r8=>some (.inr (!r8)))) fun u3:Bool=>bif u3 then (some false) else (bD (ρ:=Bool) (nJ c_1 0) fun u6:Unit=>(J1 c_1).bind fun r7=>some (decide ((len r7)≤16)))
def FV (x_1:Int):Option Int:=
 cj (bif (decide (x_1≥4294967296)) then ((gk .u64 x_1 32),32) else (x_1,0)) fun u2:Int×Int=>cj (bif (decide (u2.1≥65536)) then ((gk .u64 u2.1 16),(ac (u2.2+16))) else (u2.1,u2.2)) fun u3:Int×Int=>cj (bif (decide (u3.1≥256)) then ((gk .u64 u3.1 8),(ac (u3.2+8))) else (u3.1,u3.2)) fun u4:Int×Int=>(aC ([0,1,2,2,3,3,3,3,4,4,4,4,4,4,4,4,5,5,5,5,5,5,5,5,5,5,5,5,5,5,5,5,6,6,6,6,6,6,6,6,6,6,6,6,6,6,6,6,6,6,6,6,6,6,6,6,6,6,6,6,6,6,6,6,7,7,7,7,7,7,7,7,7,7,7,7,7,7,7,7,7,7,7,7,7,7,7,7,7,7,7,7,7,7,7,7,7,7,7,7,7,7,7,7,7,7,7,7,7,7,7,7,7,7,7,7,7,7,7,7,7,7,7,7,7,7,7,7,8,8,8,8,8,8,8,8,8,8,8,8,8,8,8,8,8,8,8,8,8,8,8,8,8,8,8,8,8,8,8,8,8,8,8,8,8,8,8,8,8,8,8,8,8,8,8,8,8,8,8,8,8,8,8,8,8,8,8,8,8,8,8,8,8,8,8,8,8,8,8,8,8,8,8,8,8,8,8,8,8,8,8,8,8,8,8,8,8,8,8,8,8,8,8,8,8,8,8,8,8,8,8,8,8,8,8,8,8,8,8,8,8,8,8,8,8,8,8,8,8,8,8,8,8,8,8,8]:ae) (IntKind.u8.wrap u4.1)).bind fun c5=>some (ac (u4.2+(IntKind.i64.wrap (c5.toNat:Int))))
def vP (x_1:Int):Option Int:=
 (FV x_1).bind fun r2=>some r2
def JD (x_1:Int):Option Bool:=
 some (x_1 != x_1)
def BZ (x_1:Int)(y_2:Int):Option Int:=
 (JD x_1).bind fun r3=>(JD y_2).bind fun r4=>bif r3 then (bif r4 then (some 0) else (some (-1))) else (bif r4 then (some 1) else (bif (decide (x_1<y_2)) then (some (-1)) else (bif (decide (x_1>y_2)) then (some 1) else (some 0))))
def JX (x_1:ae):Option Bool:=
 some (!(x_1==x_1))
def IX (x_1:ae)(y_2:ae):Option Int:=
 (JX x_1).bind fun r3=>(JX y_2).bind fun r4=>bif r3 then (bif r4 then (some 0) else (some (-1))) else (bif r4 then (some 1) else (bif (Op.bytesLess x_1 y_2) then (some (-1)) else (bif (!(Op.bytesLess x_1 y_2||x_1==y_2)) then (some 1) else (some 0))))
def mM (eB:List Int)(self:Int→Option (Int⊕Unit))(x2:Int):Option (Int⊕Unit):=
 bif (decide (x2<(len eB))) then ((aC eB x2).bind fun e3=>bif (e3 != 0) then (some (.inl e3)) else (self (ac (x2+1)))) else (some (.inr ()))
def vR (eB:List Int): Int→Option (Int⊕Unit):=aP (mM eB)
theorem CV (eB:List Int): ∀a,Fin1 fun f=>mM eB f a:=by
 unfold mM
 repeat first|intro _|exact aX|exact bv|apply bw|apply bc|apply bd|apply bi|apply bx
theorem GV (eB:List Int)(x:Int):vR eB x=mM eB (vR eB) x:=cd (CV eB) x
def Je (eB:List Int):Option Int:=
 bD (ρ:=Int) (vR eB 0) fun u4:Unit=>some 0
def nq (a_1:Event)(b_2:Event):Option Int:=
 (BZ a_1.Day b_2.Day).bind fun r3=>(BZ a_1.Party b_2.Party).bind fun r4=>(IX a_1.Action b_2.Action).bind fun r5=>(BZ a_1.Amount b_2.Amount).bind fun r6=>(Je [r3,r4,r5,r6]).bind fun r7=>some r7
def ld (aJ:List Event)(bE:Int)(bK:Int)(aZ:Unit)(x5:Int×Int×Int×(List Event))(self:(Int×(List Event))→Option ((List Event)⊕(List Event)))(x6:Int×(List Event)):Option ((List Event)⊕(List Event)):=
 bQ (ρ:=(List Event)) (bif (decide (x6.1>x5.1)) then ((aC x6.2 x6.1).bind fun e18=>(aC x6.2 (ac (x6.1 - 1))).bind fun e19=>(nq e18 e19).bind fun r20=>some (.inr (decide (r20<0)))) else (some (.inr false))) fun u7:Bool=>bif u7 then ((aC x6.2 (ac (x6.1 - 1))).bind fun e8=>(aC x6.2 x6.1).bind fun e9=>(aC x6.2 x6.1).bind fun e10=>(aC (aK x6.2 x6.1 e8) (ac (x6.1 - 1))).bind fun e13=>cj (aK (aK x6.2 x6.1 e8) (ac (x6.1 - 1)) e9) fun rw14:List Event=>self ((ac (x6.1 - 1)),rw14)) else (some (.inr x6.2))
def tx (aJ:List Event)(bE:Int)(bK:Int)(aZ:Unit)(x5:Int×Int×Int×(List Event)):(Int×(List Event))→Option ((List Event)⊕(List Event)):=aP (ld aJ bE bK aZ x5)
theorem yU (aJ:List Event)(bE:Int)(bK:Int)(aZ:Unit)(x5:Int×Int×Int×(List Event)):∀a,Fin1 fun f=>ld aJ bE bK aZ x5 f a:=by
 unfold ld
 repeat first|intro _|exact aX|exact bv|apply bw|apply bc|apply bd|apply bi|apply bx
theorem Dt (aJ:List Event)(bE:Int)(bK:Int)(aZ:Unit)(x5:Int×Int×Int×(List Event))(x:Int×(List Event)):tx aJ bE bK aZ x5 x=ld aJ bE bK aZ x5 (tx aJ bE bK aZ x5) x:=cd (yU aJ bE bK aZ x5) x
def lc (aJ:List Event)(bE:Int)(bK:Int)(aZ:Unit)(self:(Int×Int×Int×(List Event))→Option ((List Event)⊕(List Event)))(x5:Int×Int×Int×(List Event)):Option ((List Event)⊕(List Event)):=
 bif (decide (x5.2.2.1<x5.2.1)) then (bQ (ρ:=(List Event)) (tx aJ bE bK aZ x5 (x5.2.2.1,x5.2.2.2)) fun u21:(List Event)=>self (x5.1,x5.2.1,(ac (x5.2.2.1+1)),u21)) else (some (.inr x5.2.2.2))
def tw (aJ:List Event)(bE:Int)(bK:Int)(aZ:Unit): (Int×Int×Int×(List Event))→Option ((List Event)⊕(List Event)):=aP (lc aJ bE bK aZ)
theorem yT (aJ:List Event)(bE:Int)(bK:Int)(aZ:Unit): ∀a,Fin1 fun f=>lc aJ bE bK aZ f a:=by
 unfold lc
 repeat first|intro _|exact aX|exact bv|apply bw|apply bc|apply bd|apply bi|apply bx
theorem Ds (aJ:List Event)(bE:Int)(bK:Int)(aZ:Unit)(x:Int×Int×Int×(List Event)):tw aJ bE bK aZ x=lc aJ bE bK aZ (tw aJ bE bK aZ) x:=cd (yT aJ bE bK aZ) x
def AN (aJ:List Event)(bE:Int)(bK:Int)(aZ:Unit):Option (List Event):=
 bD (ρ:=(List Event)) (tw aJ bE bK aZ (bE,bK,(ac (bE+1)),aJ)) fun u22:(List Event)=>bif Nat.beq u22.length aJ.length then (some u22) else none
def rR (eE:List Event)(gD:Int)(fB:Int)(bf:Int)(gy:Unit)(self:(Int×(List Event))→Option ((List Event)⊕(List Event)))(x6:Int×(List Event)):Option ((List Event)⊕(List Event)):=
 bif (decide ((ac ((ac (2*x6.1))+1))≥fB)) then (some (.inr x6.2)) else (bQ (ρ:=(List Event)) (bif (decide ((ac ((ac ((ac (2*x6.1))+1))+1))<fB)) then ((aC x6.2 (ac (bf+(ac ((ac (2*x6.1))+1))))).bind fun e27=>(aC x6.2 (ac ((ac (bf+(ac ((ac (2*x6.1))+1))))+1))).bind fun e28=>(nq e27 e28).bind fun r29=>some (.inr (decide (r29<0)))) else (some (.inr false))) fun u7:Bool=>cj (bif u7 then (ac ((ac ((ac (2*x6.1))+1))+1)) else (ac ((ac (2*x6.1))+1))) fun u8:Int=>(aC x6.2 (ac (bf+x6.1))).bind fun e9=>(aC x6.2 (ac (bf+u8))).bind fun e10=>(nq e9 e10).bind fun r11=>bif (!(decide (r11<0))) then (bif Nat.beq x6.2.length eE.length then (some (.inl x6.2)) else none) else ((aC x6.2 (ac (bf+u8))).bind fun e13=>(aC x6.2 (ac (bf+x6.1))).bind fun e14=>(aC x6.2 (ac (bf+x6.1))).bind fun e15=>(aC (aK x6.2 (ac (bf+x6.1)) e13) (ac (bf+u8))).bind fun e20=>cj (aK (aK x6.2 (ac (bf+x6.1)) e13) (ac (bf+u8)) e14) fun rw21:List Event=>self (u8,rw21)))
def Np (eE:List Event)(gD:Int)(fB:Int)(bf:Int)(gy:Unit): (Int×(List Event))→Option ((List Event)⊕(List Event)):=aP (rR eE gD fB bf gy)
theorem Mp (eE:List Event)(gD:Int)(fB:Int)(bf:Int)(gy:Unit): ∀a,Fin1 fun f=>rR eE gD fB bf gy f a:=by
 unfold rR
 repeat first|intro _|exact aX|exact bv|apply bw|apply bc|apply bd|apply bi|apply bx
def F3 (eE:List Event)(gD:Int)(fB:Int)(bf:Int)(gy:Unit):Option (List Event):=
 bD (ρ:=(List Event)) (Np eE gD fB bf gy (gD,eE)) fun u30:(List Event)=>bif Nat.beq u30.length eE.length then (some u30) else none
def rA (dJ:List Event)(eH:Int)(fh:Int)(eF:Unit)(self:(Int×(List Event))→Option ((List Event)⊕(Int×Int×(List Event))))(x5:Int×(List Event)):Option ((List Event)⊕(Int×Int×(List Event))):=
 bif (decide (x5.1≥0)) then ((F3 x5.2 x5.1 (ac (fh - eH)) eH ()).bind fun r6=>bif Nat.beq r6.length x5.2.length then (self ((ac (x5.1 - 1)),r6)) else none) else (some (.inr (eH,(ac (fh - eH)),x5.2)))
def M8 (dJ:List Event)(eH:Int)(fh:Int)(eF:Unit): (Int×(List Event))→Option ((List Event)⊕(Int×Int×(List Event))):=aP (rA dJ eH fh eF)
theorem LR (dJ:List Event)(eH:Int)(fh:Int)(eF:Unit): ∀a,Fin1 fun f=>rA dJ eH fh eF f a:=by
 unfold rA
 repeat first|intro _|exact aX|exact bv|apply bw|apply bc|apply bd|apply bi|apply bx
def rB (dJ:List Event)(eH:Int)(fh:Int)(eF:Unit)(u8:Int×Int×(List Event))(self:(Int×(List Event))→Option ((List Event)⊕(List Event)))(x9:Int×(List Event)):Option ((List Event)⊕(List Event)):=
 bif (decide (x9.1≥0)) then ((aC x9.2 (ac (u8.1+x9.1))).bind fun e10=>(aC x9.2 u8.1).bind fun e11=>(aC x9.2 u8.1).bind fun e12=>(aC (aK x9.2 u8.1 e10) (ac (u8.1+x9.1))).bind fun e15=>cj (aK (aK x9.2 u8.1 e10) (ac (u8.1+x9.1)) e11) fun rw16:List Event=>(F3 rw16 0 x9.1 u8.1 ()).bind fun r20=>bif Nat.beq r20.length rw16.length then (self ((ac (x9.1 - 1)),r20)) else none) else (some (.inr x9.2))
def M9 (dJ:List Event)(eH:Int)(fh:Int)(eF:Unit)(u8:Int×Int×(List Event)):(Int×(List Event))→Option ((List Event)⊕(List Event)):=aP (rB dJ eH fh eF u8)
theorem LT (dJ:List Event)(eH:Int)(fh:Int)(eF:Unit)(u8:Int×Int×(List Event)):∀a,Fin1 fun f=>rB dJ eH fh eF u8 f a:=by
 unfold rB
 repeat first|intro _|exact aX|exact bv|apply bw|apply bc|apply bd|apply bi|apply bx
def Jo (dJ:List Event)(eH:Int)(fh:Int)(eF:Unit):Option (List Event):=
 bD (ρ:=(List Event)) (M8 dJ eH fh eF ((ac ((ac ((ac (fh - eH)) - 1)).tdiv 2)),dJ)) fun u8:Int×Int×(List Event)=>bD (ρ:=(List Event)) (M9 dJ eH fh eF u8 ((ac (u8.2.1 - 1)),u8.2.2)) fun u22:(List Event)=>bif Nat.beq u22.length dJ.length then (some u22) else none
def Jt (ju:Int):Option Int:=
 (vP (IntKind.u64.wrap ju)).bind fun r2=>(V9 .u64 1 r2).bind fun q3=>some q3
def JC (r_2:Int):Option (Int×Int):=
 some ((cN .u64 (cN .u64 (cN .u64 r_2 (d5 .u64 r_2 13)) (gk .u64 (cN .u64 r_2 (d5 .u64 r_2 13)) 7)) (d5 .u64 (cN .u64 (cN .u64 r_2 (d5 .u64 r_2 13)) (gk .u64 (cN .u64 r_2 (d5 .u64 r_2 13)) 7)) 17)),(cN .u64 (cN .u64 (cN .u64 r_2 (d5 .u64 r_2 13)) (gk .u64 (cN .u64 r_2 (d5 .u64 r_2 13)) 7)) (d5 .u64 (cN .u64 (cN .u64 r_2 (d5 .u64 r_2 13)) (gk .u64 (cN .u64 r_2 (d5 .u64 r_2 13)) 7)) 17)))
def rz (ez:List Event)(dW:Int)(eR:Int)(fZ:Unit)(r7:Int)(self:(Int×(List Event)×Int)→Option ((List Event)⊕(List Event)))(x8:Int×(List Event)×Int):Option ((List Event)⊕(List Event)):=
 bif (decide (x8.1≤(ac ((ac (dW+(ac ((ac ((ac (eR - dW)).tdiv 4))*2))))+1)))) then ((JC x8.2.2).bind fun r9=>cj (bif (decide ((IntKind.i64.wrap (Gv .u64 r9.1 (IntKind.u64.wrap (r7 - 1))))≥(ac (eR - dW)))) then (ac ((IntKind.i64.wrap (Gv .u64 r9.1 (IntKind.u64.wrap (r7 - 1)))) - (ac (eR - dW)))) else (IntKind.i64.wrap (Gv .u64 r9.1 (IntKind.u64.wrap (r7 - 1))))) fun u10:Int=>(aC x8.2.1 (ac (dW+u10))).bind fun e11=>(aC x8.2.1 x8.1).bind fun e12=>(aC x8.2.1 x8.1).bind fun e13=>(aC (aK x8.2.1 x8.1 e11) (ac (dW+u10))).bind fun e16=>cj (aK (aK x8.2.1 x8.1 e11) (ac (dW+u10)) e12) fun rw17:List Event=>self ((ac (x8.1+1)),rw17,r9.2)) else (some (.inr x8.2.1))
def M7 (ez:List Event)(dW:Int)(eR:Int)(fZ:Unit)(r7:Int):(Int×(List Event)×Int)→Option ((List Event)⊕(List Event)):=aP (rz ez dW eR fZ r7)
theorem LP (ez:List Event)(dW:Int)(eR:Int)(fZ:Unit)(r7:Int):∀a,Fin1 fun f=>rz ez dW eR fZ r7 f a:=by
 unfold rz
 repeat first|intro _|exact aX|exact bv|apply bw|apply bc|apply bd|apply bi|apply bx
def Jm (ez:List Event)(dW:Int)(eR:Int)(fZ:Unit):Option (List Event):=
 bD (ρ:=(List Event)) (bif (decide ((ac (eR - dW))≥8)) then ((Jt (ac (eR - dW))).bind fun r7=>bQ (ρ:=(List Event)) (M7 ez dW eR fZ r7 ((ac ((ac (dW+(ac ((ac ((ac (eR - dW)).tdiv 4))*2)))) - 1)),ez,(IntKind.u64.wrap (ac (eR - dW))))) fun u21:(List Event)=>some (.inr u21)) else (some (.inr ez))) fun u5:(List Event)=>bif Nat.beq u5.length ez.length then (some u5) else none
def AU (dw:List Event)(eZ:Int)(fa:Int)(i9:Int)(qT:Unit):Option (Int×Int×Int):=
 (aC dw fa).bind fun e6=>(aC dw eZ).bind fun e7=>(nq e6 e7).bind fun r8=>bif (decide (r8<0)) then (some (fa,eZ,(ac (i9+1)))) else (some (eZ,fa,i9))
def F0 (ji:List Event)(a_8:Int)(b_9:Int)(sE:Int)(kn:Int)(dx:Unit):Option (Int×Int):=
 (AU ji a_8 b_9 kn ()).bind fun r7=>(AU ji r7.2.1 sE r7.2.2 ()).bind fun r8=>(AU ji r7.1 r8.1 r8.2.2 ()).bind fun r9=>some (r9.2.1,r9.2.2)
def AP (mw:List Event)(a_6:Int)(ml:Int)(uM:Unit):Option (Int×Int):=
 (F0 mw (ac (a_6 - 1)) a_6 (ac (a_6+1)) ml ()).bind fun r5=>some (r5.1,r5.2)
def Jn (fG:List Event)(a_2:Int)(b_3:Int)(l6:Unit):Option (Int×Int):=
 bD (ρ:=Int×Int) (bif (decide ((ac (b_3 - a_2))≥8)) then (bQ (ρ:=Int×Int) (bif (decide ((ac (b_3 - a_2))≥50)) then ((AP fG (ac (a_2+(ac ((ac ((ac (b_3 - a_2)).tdiv 4))*1)))) 0 ()).bind fun r8=>(AP fG (ac (a_2+(ac ((ac ((ac (b_3 - a_2)).tdiv 4))*2)))) r8.2 ()).bind fun r9=>(AP fG (ac (a_2+(ac ((ac ((ac (b_3 - a_2)).tdiv 4))*3)))) r9.2 ()).bind fun r10=>some (.inr (r8.1,r9.1,r10.1,r10.2))) else (some (.inr ((ac (a_2+(ac ((ac ((ac (b_3 - a_2)).tdiv 4))*1)))),(ac (a_2+(ac ((ac ((ac (b_3 - a_2)).tdiv 4))*2)))),(ac (a_2+(ac ((ac ((ac (b_3 - a_2)).tdiv 4))*3)))),0)))) fun u6:Int×Int×Int×Int=>(F0 fG u6.1 u6.2.1 u6.2.2.1 u6.2.2.2 ()).bind fun r7=>some (.inr (r7.1,r7.2))) else (some (.inr ((ac (a_2+(ac ((ac ((ac (b_3 - a_2)).tdiv 4))*2)))),0)))) fun u5:Int×Int=>bif (u5.2==0) then (some (u5.1,1)) else (bif (u5.2==12) then (some (u5.1,2)) else (some (u5.1,0)))
def rQ (dw:List Event)(eZ:Int)(fa:Int)(aH:Unit)(self:(Int×Int×(List Event))→Option ((List Event)⊕(List Event)))(x5:Int×Int×(List Event)):Option ((List Event)⊕(List Event)):=
 bif (decide (x5.1<x5.2.1)) then ((aC x5.2.2 x5.2.1).bind fun e6=>(aC x5.2.2 x5.1).bind fun e7=>(aC x5.2.2 x5.1).bind fun e8=>(aC (aK x5.2.2 x5.1 e6) x5.2.1).bind fun e11=>cj (aK (aK x5.2.2 x5.1 e6) x5.2.1 e7) fun rw12:List Event=>self ((ac (x5.1+1)),(ac (x5.2.1 - 1)),rw12)) else (some (.inr x5.2.2))
def No (dw:List Event)(eZ:Int)(fa:Int)(aH:Unit): (Int×Int×(List Event))→Option ((List Event)⊕(List Event)):=aP (rQ dw eZ fa aH)
theorem Mn (dw:List Event)(eZ:Int)(fa:Int)(aH:Unit): ∀a,Fin1 fun f=>rQ dw eZ fa aH f a:=by
 unfold rQ
 repeat first|intro _|exact aX|exact bv|apply bw|apply bc|apply bd|apply bi|apply bx
def Jz (dw:List Event)(eZ:Int)(fa:Int)(aH:Unit):Option (List Event):=
 bD (ρ:=(List Event)) (No dw eZ fa aH (eZ,(ac (fa - 1)),dw)) fun u16:(List Event)=>bif Nat.beq u16.length dw.length then (some u16) else none
def rD (aJ:List Event)(bE:Int)(bK:Int)(aZ:Unit)(x5:Int×Int×Int×Int×(List Event))(self:Int→Option ((Bool×(List Event))⊕Int))(x6:Int):Option ((Bool×(List Event))⊕Int):=
 bQ (ρ:=Bool×(List Event)) (bif (decide (x6<x5.2.1)) then ((aC x5.2.2.2.2 x6).bind fun e8=>(aC x5.2.2.2.2 (ac (x6 - 1))).bind fun e9=>(nq e8 e9).bind fun r10=>some (.inr (!(decide (r10<0))))) else (some (.inr false))) fun u7:Bool=>bif u7 then (self (ac (x6+1))) else (some (.inr x6))
def Nb (aJ:List Event)(bE:Int)(bK:Int)(aZ:Unit)(x5:Int×Int×Int×Int×(List Event)):Int→Option ((Bool×(List Event))⊕Int):=aP (rD aJ bE bK aZ x5)
theorem LZ (aJ:List Event)(bE:Int)(bK:Int)(aZ:Unit)(x5:Int×Int×Int×Int×(List Event)):∀a,Fin1 fun f=>rD aJ bE bK aZ x5 f a:=by
 unfold rD
 repeat first|intro _|exact aX|exact bv|apply bw|apply bc|apply bd|apply bi|apply bx
def rE (aJ:List Event)(bE:Int)(bK:Int)(aZ:Unit)(x5:Int×Int×Int×Int×(List Event))(u11:Int)(self:(Int×(List Event))→Option ((Bool×(List Event))⊕(List Event)))(x26:Int×(List Event)):Option ((Bool×(List Event))⊕(List Event)):=
 bif (decide (x26.1<x5.2.1)) then ((aC x26.2 x26.1).bind fun e27=>(aC x26.2 (ac (x26.1 - 1))).bind fun e28=>(nq e27 e28).bind fun r29=>bif (!(decide (r29<0))) then (some (.inr x26.2)) else ((aC x26.2 (ac (x26.1 - 1))).bind fun e30=>(aC x26.2 x26.1).bind fun e31=>(aC x26.2 x26.1).bind fun e32=>(aC (aK x26.2 x26.1 e30) (ac (x26.1 - 1))).bind fun e37=>cj (aK (aK x26.2 x26.1 e30) (ac (x26.1 - 1)) e31) fun rw38:List Event=>self ((ac (x26.1+1)),rw38))) else (some (.inr x26.2))
def Nc (aJ:List Event)(bE:Int)(bK:Int)(aZ:Unit)(x5:Int×Int×Int×Int×(List Event))(u11:Int):(Int×(List Event))→Option ((Bool×(List Event))⊕(List Event)):=aP (rE aJ bE bK aZ x5 u11)
theorem L1 (aJ:List Event)(bE:Int)(bK:Int)(aZ:Unit)(x5:Int×Int×Int×Int×(List Event))(u11:Int):∀a,Fin1 fun f=>rE aJ bE bK aZ x5 u11 f a:=by
 unfold rE
 repeat first|intro _|exact aX|exact bv|apply bw|apply bc|apply bd|apply bi|apply bx
def rF (aJ:List Event)(bE:Int)(bK:Int)(aZ:Unit)(x5:Int×Int×Int×Int×(List Event))(u11:Int)(self:(Int×(List Event))→Option ((Bool×(List Event))⊕(List Event)))(x45:Int×(List Event)):Option ((Bool×(List Event))⊕(List Event)):=
 bif (decide (x45.1≥1)) then ((aC x45.2 x45.1).bind fun e46=>(aC x45.2 (ac (x45.1 - 1))).bind fun e47=>(nq e46 e47).bind fun r48=>bif (!(decide (r48<0))) then (some (.inr x45.2)) else ((aC x45.2 (ac (x45.1 - 1))).bind fun e49=>(aC x45.2 x45.1).bind fun e50=>(aC x45.2 x45.1).bind fun e51=>(aC (aK x45.2 x45.1 e49) (ac (x45.1 - 1))).bind fun e56=>cj (aK (aK x45.2 x45.1 e49) (ac (x45.1 - 1)) e50) fun rw57:List Event=>self ((ac (x45.1 - 1)),rw57))) else (some (.inr x45.2))
def Nd (aJ:List Event)(bE:Int)(bK:Int)(aZ:Unit)(x5:Int×Int×Int×Int×(List Event))(u11:Int):(Int×(List Event))→Option ((Bool×(List Event))⊕(List Event)):=aP (rF aJ bE bK aZ x5 u11)
theorem L4 (aJ:List Event)(bE:Int)(bK:Int)(aZ:Unit)(x5:Int×Int×Int×Int×(List Event))(u11:Int):∀a,Fin1 fun f=>rF aJ bE bK aZ x5 u11 f a:=by
 unfold rF
 repeat first|intro _|exact aX|exact bv|apply bw|apply bc|apply bd|apply bi|apply bx
def rC (aJ:List Event)(bE:Int)(bK:Int)(aZ:Unit)(self:(Int×Int×Int×Int×(List Event))→Option ((Bool×(List Event))⊕(List Event)))(x5:Int×Int×Int×Int×(List Event)):Option ((Bool×(List Event))⊕(List Event)):=
 bif (decide (x5.2.2.2.1<5)) then (bQ (ρ:=Bool×(List Event)) (Nb aJ bE bK aZ x5 x5.2.2.1) fun u11:Int=>bif (u11==x5.2.1) then (bif Nat.beq x5.2.2.2.2.length aJ.length then (some (.inl (true,x5.2.2.2.2))) else none) else (bif (decide ((ac (x5.2.1 - x5.1))<50)) then (bif Nat.beq x5.2.2.2.2.length aJ.length then (some (.inl (false,x5.2.2.2.2))) else none) else ((aC x5.2.2.2.2 (ac (u11 - 1))).bind fun e14=>(aC x5.2.2.2.2 u11).bind fun e15=>(aC x5.2.2.2.2 u11).bind fun e16=>(aC (aK x5.2.2.2.2 u11 e14) (ac (u11 - 1))).bind fun e19=>cj (aK (aK x5.2.2.2.2 u11 e14) (ac (u11 - 1)) e15) fun rw20:List Event=>bQ (ρ:=Bool×(List Event)) (bif (decide ((ac (u11 - x5.1))≥2)) then (bQ (ρ:=Bool×(List Event)) (Nd aJ bE bK aZ x5 u11 ((ac (u11 - 1)),rw20)) fun u63:(List Event)=>some (.inr u63)) else (some (.inr rw20))) fun u24:(List Event)=>bQ (ρ:=Bool×(List Event)) (bif (decide ((ac (x5.2.1 - u11))≥2)) then (bQ (ρ:=Bool×(List Event)) (Nc aJ bE bK aZ x5 u11 ((ac (u11+1)),u24)) fun u44:(List Event)=>some (.inr u44)) else (some (.inr u24))) fun u25:(List Event)=>self (x5.1,x5.2.1,u11,(ac (x5.2.2.2.1+1)),u25)))) else (some (.inr x5.2.2.2.2))
def Na (aJ:List Event)(bE:Int)(bK:Int)(aZ:Unit): (Int×Int×Int×Int×(List Event))→Option ((Bool×(List Event))⊕(List Event)):=aP (rC aJ bE bK aZ)
theorem LX (aJ:List Event)(bE:Int)(bK:Int)(aZ:Unit): ∀a,Fin1 fun f=>rC aJ bE bK aZ f a:=by
 unfold rC
 repeat first|intro _|exact aX|exact bv|apply bw|apply bc|apply bd|apply bi|apply bx
def Jv (aJ:List Event)(bE:Int)(bK:Int)(aZ:Unit):Option (Bool×(List Event)):=
 bD (ρ:=Bool×(List Event)) (Na aJ bE bK aZ (bE,bK,(ac (bE+1)),0,aJ)) fun u64:(List Event)=>bif Nat.beq u64.length aJ.length then (some (false,u64)) else none
def rN (au:List Event)(aE:Int)(bo:Int)(ar:Int)(aH:Unit)(x16:Int×Int×(List Event))(self:Int→Option ((Int×(List Event))⊕Int))(x17:Int):Option ((Int×(List Event))⊕Int):=
 bQ (ρ:=Int×(List Event)) (bif (decide (x17≤x16.2.1)) then ((aC x16.2.2 aE).bind fun e19=>(aC x16.2.2 x17).bind fun e20=>(nq e19 e20).bind fun r21=>some (.inr (!(decide (r21<0))))) else (some (.inr false))) fun u18:Bool=>bif u18 then (self (ac (x17+1))) else (some (.inr x17))
def Nl (au:List Event)(aE:Int)(bo:Int)(ar:Int)(aH:Unit)(x16:Int×Int×(List Event)):Int→Option ((Int×(List Event))⊕Int):=aP (rN au aE bo ar aH x16)
theorem Mi (au:List Event)(aE:Int)(bo:Int)(ar:Int)(aH:Unit)(x16:Int×Int×(List Event)):∀a,Fin1 fun f=>rN au aE bo ar aH x16 f a:=by
 unfold rN
 repeat first|intro _|exact aX|exact bv|apply bw|apply bc|apply bd|apply bi|apply bx
def rO (au:List Event)(aE:Int)(bo:Int)(ar:Int)(aH:Unit)(u22:Int)(x16:Int×Int×(List Event))(self:Int→Option ((Int×(List Event))⊕Int))(x23:Int):Option ((Int×(List Event))⊕Int):=
 bQ (ρ:=Int×(List Event)) (bif (decide (u22≤x23)) then ((aC x16.2.2 aE).bind fun e25=>(aC x16.2.2 x23).bind fun e26=>(nq e25 e26).bind fun r27=>some (.inr (decide (r27<0)))) else (some (.inr false))) fun u24:Bool=>bif u24 then (self (ac (x23 - 1))) else (some (.inr x23))
def Nm (au:List Event)(aE:Int)(bo:Int)(ar:Int)(aH:Unit)(u22:Int)(x16:Int×Int×(List Event)):Int→Option ((Int×(List Event))⊕Int):=aP (rO au aE bo ar aH u22 x16)
theorem Mk (au:List Event)(aE:Int)(bo:Int)(ar:Int)(aH:Unit)(u22:Int)(x16:Int×Int×(List Event)):∀a,Fin1 fun f=>rO au aE bo ar aH u22 x16 f a:=by
 unfold rO
 repeat first|intro _|exact aX|exact bv|apply bw|apply bc|apply bd|apply bi|apply bx
def rM (au:List Event)(aE:Int)(bo:Int)(ar:Int)(aH:Unit)(self:(Int×Int×(List Event))→Option ((Int×(List Event))⊕(Int×(List Event))))(x16:Int×Int×(List Event)):Option ((Int×(List Event))⊕(Int×(List Event))):=
 bQ (ρ:=Int×(List Event)) (Nl au aE bo ar aH x16 x16.1) fun u22:Int=>bQ (ρ:=Int×(List Event)) (Nm au aE bo ar aH u22 x16 x16.2.1) fun u28:Int=>bif (decide (u22>u28)) then (some (.inr (u22,x16.2.2))) else ((aC x16.2.2 u28).bind fun e29=>(aC x16.2.2 u22).bind fun e30=>(aC x16.2.2 u22).bind fun e31=>(aC (aK x16.2.2 u22 e29) u28).bind fun e34=>cj (aK (aK x16.2.2 u22 e29) u28 e30) fun rw35:List Event=>self ((ac (u22+1)),(ac (u28 - 1)),rw35))
def Nk (au:List Event)(aE:Int)(bo:Int)(ar:Int)(aH:Unit): (Int×Int×(List Event))→Option ((Int×(List Event))⊕(Int×(List Event))):=aP (rM au aE bo ar aH)
theorem Mg (au:List Event)(aE:Int)(bo:Int)(ar:Int)(aH:Unit): ∀a,Fin1 fun f=>rM au aE bo ar aH f a:=by
 unfold rM
 repeat first|intro _|exact aX|exact bv|apply bw|apply bc|apply bd|apply bi|apply bx
def Jx (au:List Event)(aE:Int)(bo:Int)(ar:Int)(aH:Unit):Option (Int×(List Event)):=
 (aC au ar).bind fun e6=>(aC au aE).bind fun e7=>(aC au aE).bind fun e8=>(aC (aK au aE e6) ar).bind fun e11=>cj (aK (aK au aE e6) ar e7) fun rw12:List Event=>bD (ρ:=Int×(List Event)) (Nk au aE bo ar aH ((ac (aE+1)),(ac (bo - 1)),rw12)) fun u39:Int×(List Event)=>bif Nat.beq u39.2.length au.length then (some (u39.1,u39.2)) else none
def rG (au:List Event)(aE:Int)(bo:Int)(ar:Int)(aH:Unit)(rw12:List Event)(self:Int→Option ((Int×Bool×(List Event))⊕(Int×Int)))(x16:Int):Option ((Int×Bool×(List Event))⊕(Int×Int)):=
 bQ (ρ:=Int×Bool×(List Event)) (bif (decide (x16≤(ac (bo - 1)))) then ((aC rw12 x16).bind fun e18=>(aC rw12 aE).bind fun e19=>(nq e18 e19).bind fun r20=>some (.inr (decide (r20<0)))) else (some (.inr false))) fun u17:Bool=>bif u17 then (self (ac (x16+1))) else (some (.inr (x16,(ac (bo - 1)))))
def Nf (au:List Event)(aE:Int)(bo:Int)(ar:Int)(aH:Unit)(rw12:List Event):Int→Option ((Int×Bool×(List Event))⊕(Int×Int)):=aP (rG au aE bo ar aH rw12)
theorem L6 (au:List Event)(aE:Int)(bo:Int)(ar:Int)(aH:Unit)(rw12:List Event):∀a,Fin1 fun f=>rG au aE bo ar aH rw12 f a:=by
 unfold rG
 repeat first|intro _|exact aX|exact bv|apply bw|apply bc|apply bd|apply bi|apply bx
def rH (au:List Event)(aE:Int)(bo:Int)(ar:Int)(aH:Unit)(u21:Int×Int)(rw12:List Event)(self:Int→Option ((Int×Bool×(List Event))⊕Int))(x22:Int):Option ((Int×Bool×(List Event))⊕Int):=
 bQ (ρ:=Int×Bool×(List Event)) (bif (decide (u21.1≤x22)) then ((aC rw12 x22).bind fun e24=>(aC rw12 aE).bind fun e25=>(nq e24 e25).bind fun r26=>some (.inr (!(decide (r26<0))))) else (some (.inr false))) fun u23:Bool=>bif u23 then (self (ac (x22 - 1))) else (some (.inr x22))
def Ng (au:List Event)(aE:Int)(bo:Int)(ar:Int)(aH:Unit)(u21:Int×Int)(rw12:List Event):Int→Option ((Int×Bool×(List Event))⊕Int):=aP (rH au aE bo ar aH u21 rw12)
theorem L8 (au:List Event)(aE:Int)(bo:Int)(ar:Int)(aH:Unit)(u21:Int×Int)(rw12:List Event):∀a,Fin1 fun f=>rH au aE bo ar aH u21 rw12 f a:=by
 unfold rH
 repeat first|intro _|exact aX|exact bv|apply bw|apply bc|apply bd|apply bi|apply bx
def rK (au:List Event)(aE:Int)(bo:Int)(ar:Int)(aH:Unit)(x51:Int×Int×(List Event))(self:Int→Option ((Int×Bool×(List Event))⊕Int))(x52:Int):Option ((Int×Bool×(List Event))⊕Int):=
 bQ (ρ:=Int×Bool×(List Event)) (bif (decide (x52≤x51.2.1)) then ((aC x51.2.2 x52).bind fun e54=>(aC x51.2.2 aE).bind fun e55=>(nq e54 e55).bind fun r56=>some (.inr (decide (r56<0)))) else (some (.inr false))) fun u53:Bool=>bif u53 then (self (ac (x52+1))) else (some (.inr x52))
def Ni (au:List Event)(aE:Int)(bo:Int)(ar:Int)(aH:Unit)(x51:Int×Int×(List Event)):Int→Option ((Int×Bool×(List Event))⊕Int):=aP (rK au aE bo ar aH x51)
theorem Mc (au:List Event)(aE:Int)(bo:Int)(ar:Int)(aH:Unit)(x51:Int×Int×(List Event)):∀a,Fin1 fun f=>rK au aE bo ar aH x51 f a:=by
 unfold rK
 repeat first|intro _|exact aX|exact bv|apply bw|apply bc|apply bd|apply bi|apply bx
def rL (au:List Event)(aE:Int)(bo:Int)(ar:Int)(aH:Unit)(u57:Int)(x51:Int×Int×(List Event))(self:Int→Option ((Int×Bool×(List Event))⊕Int))(x58:Int):Option ((Int×Bool×(List Event))⊕Int):=
 bQ (ρ:=Int×Bool×(List Event)) (bif (decide (u57≤x58)) then ((aC x51.2.2 x58).bind fun e60=>(aC x51.2.2 aE).bind fun e61=>(nq e60 e61).bind fun r62=>some (.inr (!(decide (r62<0))))) else (some (.inr false))) fun u59:Bool=>bif u59 then (self (ac (x58 - 1))) else (some (.inr x58))
def Nj (au:List Event)(aE:Int)(bo:Int)(ar:Int)(aH:Unit)(u57:Int)(x51:Int×Int×(List Event)):Int→Option ((Int×Bool×(List Event))⊕Int):=aP (rL au aE bo ar aH u57 x51)
theorem Me (au:List Event)(aE:Int)(bo:Int)(ar:Int)(aH:Unit)(u57:Int)(x51:Int×Int×(List Event)):∀a,Fin1 fun f=>rL au aE bo ar aH u57 x51 f a:=by
 unfold rL
 repeat first|intro _|exact aX|exact bv|apply bw|apply bc|apply bd|apply bi|apply bx
def rJ (au:List Event)(aE:Int)(bo:Int)(ar:Int)(aH:Unit)(self:(Int×Int×(List Event))→Option ((Int×Bool×(List Event))⊕(Int×(List Event))))(x51:Int×Int×(List Event)):Option ((Int×Bool×(List Event))⊕(Int×(List Event))):=
 bQ (ρ:=Int×Bool×(List Event)) (Ni au aE bo ar aH x51 x51.1) fun u57:Int=>bQ (ρ:=Int×Bool×(List Event)) (Nj au aE bo ar aH u57 x51 x51.2.1) fun u63:Int=>bif (decide (u57>u63)) then (some (.inr (u63,x51.2.2))) else ((aC x51.2.2 u63).bind fun e64=>(aC x51.2.2 u57).bind fun e65=>(aC x51.2.2 u57).bind fun e66=>(aC (aK x51.2.2 u57 e64) u63).bind fun e69=>cj (aK (aK x51.2.2 u57 e64) u63 e65) fun rw70:List Event=>self ((ac (u57+1)),(ac (u63 - 1)),rw70))
def Nh (au:List Event)(aE:Int)(bo:Int)(ar:Int)(aH:Unit): (Int×Int×(List Event))→Option ((Int×Bool×(List Event))⊕(Int×(List Event))):=aP (rJ au aE bo ar aH)
theorem Ma (au:List Event)(aE:Int)(bo:Int)(ar:Int)(aH:Unit): ∀a,Fin1 fun f=>rJ au aE bo ar aH f a:=by
 unfold rJ
 repeat first|intro _|exact aX|exact bv|apply bw|apply bc|apply bd|apply bi|apply bx
def Jw (au:List Event)(aE:Int)(bo:Int)(ar:Int)(aH:Unit):Option (Int×Bool×(List Event)):=
 (aC au ar).bind fun e6=>(aC au aE).bind fun e7=>(aC au aE).bind fun e8=>(aC (aK au aE e6) ar).bind fun e11=>cj (aK (aK au aE e6) ar e7) fun rw12:List Event=>bD (ρ:=Int×Bool×(List Event)) (Nf au aE bo ar aH rw12 (ac (aE+1))) fun u21:Int×Int=>bD (ρ:=Int×Bool×(List Event)) (Ng au aE bo ar aH u21 rw12 u21.2) fun u27:Int=>bif (decide (u21.1>u27)) then ((aC rw12 aE).bind fun e28=>(aC rw12 u27).bind fun e29=>(aC rw12 u27).bind fun e30=>cj (aK rw12 u27 e28) fun rw31:List Event=>(aC rw31 aE).bind fun e34=>cj (aK rw31 aE e29) fun rw35:List Event=>bif Nat.beq rw35.length au.length then (some (u27,true,rw35)) else none) else ((aC rw12 u27).bind fun e40=>(aC rw12 u21.1).bind fun e41=>(aC rw12 u21.1).bind fun e42=>cj (aK rw12 u21.1 e40) fun rw43:List Event=>(aC rw43 u27).bind fun e46=>cj (aK rw43 u27 e41) fun rw47:List Event=>bD (ρ:=Int×Bool×(List Event)) (Nh au aE bo ar aH ((ac (u21.1+1)),(ac (u27 - 1)),rw47)) fun u74:Int×(List Event)=>(aC u74.2 aE).bind fun e75=>(aC u74.2 u74.1).bind fun e76=>(aC u74.2 u74.1).bind fun e77=>(aC (aK u74.2 u74.1 e75) aE).bind fun e80=>cj (aK (aK u74.2 u74.1 e75) aE e76) fun rw81:List Event=>bif Nat.beq rw81.length au.length then (some (u74.1,false,rw81)) else none)
def lg (bI:((List Event)×Int×Int×Int×Unit)→Option (List Event))(dF:List Event)(a_9:Int)(fx:Int)(cF:Int)(dx:Unit)(self:(Int×Int×Int×Bool×Bool×(List Event))→Option ((List Event)⊕Unit))(x6:Int×Int×Int×Bool×Bool×(List Event)):Option ((List Event)⊕Unit):=
 bif (decide ((ac (x6.2.1 - x6.1))≤12)) then ((AN x6.2.2.2.2.2 x6.1 x6.2.1 ()).bind fun r7=>bif Nat.beq r7.length x6.2.2.2.2.2.length then (bif Nat.beq r7.length dF.length then (some (.inl r7)) else none) else none) else (bif (x6.2.2.1==0) then ((Jo x6.2.2.2.2.2 x6.1 x6.2.1 ()).bind fun r10=>bif Nat.beq r10.length x6.2.2.2.2.2.length then (bif Nat.beq r10.length dF.length then (some (.inl r10)) else none) else none) else (bQ (ρ:=(List Event)) (bif (!x6.2.2.2.1) then ((Jm x6.2.2.2.2.2 x6.1 x6.2.1 ()).bind fun r37=>bif Nat.beq r37.length x6.2.2.2.2.2.length then (some (.inr ((ac (x6.2.2.1 - 1)),r37))) else none) else (some (.inr (x6.2.2.1,x6.2.2.2.2.2)))) fun u13:Int×(List Event)=>(Jn u13.2 x6.1 x6.2.1 ()).bind fun r14=>bQ (ρ:=(List Event)) (bif (r14.2==2) then ((Jz u13.2 x6.1 x6.2.1 ()).bind fun r35=>bif Nat.beq r35.length u13.2.length then (some (.inr ((ac ((ac (x6.2.1 - 1)) - (ac (r14.1 - x6.1)))),1,r35))) else none) else (some (.inr (r14.1,r14.2,u13.2)))) fun u15:Int×Int×(List Event)=>cj (bif x6.2.2.2.1 then (cj (bif x6.2.2.2.2.1 then (u15.2.1==1) else false) fun u34:Bool=>u34) else false) fun u16:Bool=>bQ (ρ:=(List Event)) (bif u16 then ((Jv u15.2.2 x6.1 x6.2.1 ()).bind fun r31=>bif Nat.beq r31.2.length u15.2.2.length then (bif r31.1 then (bif Nat.beq r31.2.length dF.length then (some (.inl r31.2)) else none) else (some (.inr r31.2))) else none) else (some (.inr u15.2.2))) fun u17:(List Event)=>bQ (ρ:=(List Event)) (bif (decide (x6.1>0)) then ((aC u17 (ac (x6.1 - 1))).bind fun e28=>(aC u17 u15.1).bind fun e29=>(nq e28 e29).bind fun r30=>some (.inr (!(decide (r30<0))))) else (some (.inr false))) fun u18:Bool=>bif u18 then ((Jx u17 x6.1 x6.2.1 u15.1 ()).bind fun r19=>bif Nat.beq r19.2.length u17.length then (self (r19.1,x6.2.1,u13.1,x6.2.2.2.1,x6.2.2.2.2.1,r19.2)) else none) else ((Jw u17 x6.1 x6.2.1 u15.1 ()).bind fun r21=>bif Nat.beq r21.2.2.length u17.length then (bQ (ρ:=(List Event)) (bif (decide ((ac (r21.1 - x6.1))<(ac (x6.2.1 - r21.1)))) then ((bI (r21.2.2,x6.1,r21.1,u13.1,())).bind fun r24=>bif Nat.beq r24.length r21.2.2.length then (some (.inr ((ac (r21.1+1)),x6.2.1,(decide ((ac (r21.1 - x6.1))≥(ac ((ac (x6.2.1 - x6.1)).tdiv 8)))),r24))) else none) else ((bI (r21.2.2,(ac (r21.1+1)),x6.2.1,u13.1,())).bind fun r26=>bif Nat.beq r26.length r21.2.2.length then (some (.inr (x6.1,r21.1,(decide ((ac (x6.2.1 - r21.1))≥(ac ((ac (x6.2.1 - x6.1)).tdiv 8)))),r26))) else none)) fun u23:Int×Int×Bool×(List Event)=>self (u23.1,u23.2.1,u13.1,u23.2.2.1,r21.2.1,u23.2.2.2)) else none)))
def oK (bI:((List Event)×Int×Int×Int×Unit)→Option (List Event))(dF:List Event)(a_9:Int)(fx:Int)(cF:Int)(dx:Unit): (Int×Int×Int×Bool×Bool×(List Event))→Option ((List Event)⊕Unit):=aP (lg bI dF a_9 fx cF dx)
theorem yV (bI:((List Event)×Int×Int×Int×Unit)→Option (List Event))(dF:List Event)(a_9:Int)(fx:Int)(cF:Int)(dx:Unit): ∀a,Fin1 fun f=>lg bI dF a_9 fx cF dx f a:=by
 unfold lg
 repeat first|intro _|exact aX|exact bv|apply bw|apply bc|apply bd|apply bi|apply bx
theorem Ok (bI:((List Event)×Int×Int×Int×Unit)→Option (List Event))(dF:List Event)(a_9:Int)(fx:Int)(cF:Int)(dx:Unit)(x:Int×Int×Int×Bool×Bool×(List Event)):oK bI dF a_9 fx cF dx x=lg bI dF a_9 fx cF dx (oK bI dF a_9 fx cF dx) x:=cd (yV bI dF a_9 fx cF dx) x
def tA (bI:((List Event)×Int×Int×Int×Unit)→Option (List Event))(dF:List Event)(a_9:Int)(fx:Int)(cF:Int)(dx:Unit):Option (List Event):=
 bD (ρ:=(List Event)) (oK bI dF a_9 fx cF dx (a_9,fx,cF,true,true,dF)) fun u39:Unit=>none
def nH (bI:((List Event)×Int×Int×Int×Unit)→Option (List Event))(x:(List Event)×Int×Int×Int×Unit):Option (List Event):=tA bI x.1 x.2.1 x.2.2.1 x.2.2.2.1 x.2.2.2.2
def Jy (dF:List Event)(a_9:Int)(fx:Int)(cF:Int)(dx:Unit):Option (List Event):=aP nH (dF,a_9,fx,cF,dx)
theorem Ux:∀x,Fin1 fun bI=>nH bI x:=by
 unfold nH tA
 repeat first|intro _|exact aX|exact bv|exact je|exact kD|exact iz|exact jr|exact iR|exact iT|apply bw|apply bc|apply bd|apply bi|apply bx|apply ph|unfold oK|unfold lg
theorem Xn (dF:List Event)(a_9:Int)(fx:Int)(cF:Int)(dx:Unit):Jy dF a_9 fx cF dx=tA (aP nH) dF a_9 fx cF dx:=cd Ux (dF,a_9,fx,cF,dx)
def vU (x_4:List Event)(uL:Unit):Option (List Event):=
 (vP (IntKind.u64.wrap (len x_4))).bind fun r3=>(Jy x_4 0 (len x_4) r3 ()).bind fun r4=>bif Nat.beq r4.length x_4.length then (bif Nat.beq r4.length x_4.length then (some r4) else none) else none
def kY (s_2:List Event)(x2:Int)(self:(Int×Int×(List Event))→Option ((List Event)⊕(Int×(List Event))))(x6:Int×Int×(List Event)):Option ((List Event)⊕(Int×(List Event))):=
 bif (decide (x6.2.1<(((Int.toNat (len s_2) - Int.toNat x2):Nat):Int))) then ((nX x6.2.2 (0+Int.toNat x2) (Int.toNat (len s_2) - Int.toNat x2) x6.2.1).bind fun e7=>(nX x6.2.2 (0+Int.toNat x2) (Int.toNat (len s_2) - Int.toNat x2) (ac (x6.2.1 - 1))).bind fun e8=>bQ (ρ:=(List Event)) (bif (!(e7.Day==e8.Day&&(e7.Party==e8.Party&&(e7.Action==e8.Action&&(e7.Amount==e8.Amount&&true))))) then ((nX x6.2.2 (0+Int.toNat x2) (Int.toNat (len s_2) - Int.toNat x2) x6.2.1).bind fun e10=>(aC x6.2.2 x6.1).bind fun e11=>some (.inr ((ac (x6.1+1)),(aK x6.2.2 x6.1 e10)))) else (some (.inr (x6.1,x6.2.2)))) fun u9:Int×(List Event)=>self (u9.1,(ac (x6.2.1+1)),u9.2)) else (some (.inr (x6.1,x6.2.2)))
def ky (s_2:List Event)(x2:Int):(Int×Int×(List Event))→Option ((List Event)⊕(Int×(List Event))):=aP (kY s_2 x2)
theorem yO (s_2:List Event)(x2:Int):∀a,Fin1 fun f=>kY s_2 x2 f a:=by
 unfold kY
 repeat first|intro _|exact aX|exact bv|apply bw|apply bc|apply bd|apply bi|apply bx
theorem C0 (s_2:List Event)(x2:Int)(x:Int×Int×(List Event)):ky s_2 x2 x=kY s_2 x2 (ky s_2 x2) x:=cd (yO s_2 x2) x
def kX (s_2:List Event)(self:Int→Option ((List Event)⊕(List Event)))(x2:Int):Option ((List Event)⊕(List Event)):=
 bif (decide (x2<(len s_2))) then ((aC s_2 x2).bind fun e3=>(aC s_2 (ac (x2 - 1))).bind fun e4=>bif (e3.Day==e4.Day&&(e3.Party==e4.Party&&(e3.Action==e4.Action&&(e3.Amount==e4.Amount&&true)))) then ((gb s_2.length x2 (len s_2)).bind fun s5=>bQ (ρ:=(List Event)) (ky s_2 x2 (x2,1,s_2)) fun u15:Int×(List Event)=>(gb u15.2.length u15.1 (len u15.2)).bind fun s16=>(uK u15.2 (0+Int.toNat u15.1) (Int.toNat (len u15.2) - Int.toNat u15.1) (Event.mk 0 0 [] 0)).bind fun k17=>(gb k17.length 0 u15.1).bind fun s18=>(gF k17 (0+Int.toNat (0)) (Int.toNat u15.1 - Int.toNat (0))).bind fun p19=>some (.inl p19)) else (self (ac (x2+1)))) else (some (.inr s_2))
def qo (s_2:List Event): Int→Option ((List Event)⊕(List Event)):=aP (kX s_2)
theorem yN (s_2:List Event): ∀a,Fin1 fun f=>kX s_2 f a:=by
 unfold kX
 repeat first|intro _|exact aX|exact bv|apply bw|apply bc|apply bd|apply bi|apply bx
theorem CZ (s_2:List Event)(x:Int):qo s_2 x=kX s_2 (qo s_2) x:=cd (yN s_2) x
def AC (s_2:List Event):Option (List Event):=
 bif (decide ((len s_2)<2)) then (some s_2) else (bD (ρ:=(List Event)) (qo s_2 1) fun u20:(List Event)=>some u20)
def mR (c_1:Contract)(self:(Int×(List Event))→Option ((List Event)⊕(List Event)))(x2:Int×(List Event)):Option ((List Event)⊕(List Event)):=
 bif (decide (x2.1<(len c_1.Clauses))) then ((aC c_1.Clauses x2.1).bind fun e3=>(iy 40 x2.2 [(Event.mk 0 e3.Party e3.Action e3.Amount)]).bind fun a4=>self ((ac (x2.1+1)),a4)) else (some (.inr x2.2))
def nM (c_1:Contract): (Int×(List Event))→Option ((List Event)⊕(List Event)):=aP (mR c_1)
theorem E3 (c_1:Contract): ∀a,Fin1 fun f=>mR c_1 f a:=by
 unfold mR
 repeat first|intro _|exact aX|exact bv|apply bw|apply bc|apply bd|apply bi|apply bx
theorem G8 (c_1:Contract)(x:Int×(List Event)):nM c_1 x=mR c_1 (nM c_1) x:=cd (E3 c_1) x
def J6 (c_1:Contract):Option (List Event):=
 bD (ρ:=(List Event)) (nM c_1 (0,[])) fun u5:(List Event)=>(vU u5 ()).bind fun r6=>bif Nat.beq r6.length u5.length then ((AC r6).bind fun r8=>some r8) else none
def G3 (c_1:Contract):Option ((List Event)×Bool):=
 (JZ c_1).bind fun r2=>bif (!r2) then (some ([],false)) else ((J6 c_1).bind fun r3=>some (r3,true))
def vB (a_1:Event)(b_2:Event):Option Bool:=
 bif (a_1.Day != b_2.Day) then (some false) else (bif (a_1.Party != b_2.Party) then (some false) else (bif (!(a_1.Action==b_2.Action)) then (some false) else (bif (a_1.Amount != b_2.Amount) then (some false) else (some true))))
def mW (a_1:List Event)(b_2:List Event)(self:Int→Option (Bool⊕Unit))(x3:Int):Option (Bool⊕Unit):=
 bif (decide (x3<(len a_1))) then ((aC a_1 x3).bind fun e4=>(aC b_2 x3).bind fun e5=>(vB e4 e5).bind fun r6=>bif (!r6) then (some (.inl false)) else (self (ac (x3+1)))) else (some (.inr ()))
def ta (a_1:List Event)(b_2:List Event): Int→Option (Bool⊕Unit):=aP (mW a_1 b_2)
theorem yz (a_1:List Event)(b_2:List Event): ∀a,Fin1 fun f=>mW a_1 b_2 f a:=by
 unfold mW
 repeat first|intro _|exact aX|exact bv|apply bw|apply bc|apply bd|apply bi|apply bx
theorem N7 (a_1:List Event)(b_2:List Event)(x:Int):ta a_1 b_2 x=mW a_1 b_2 (ta a_1 b_2) x:=cd (yz a_1 b_2) x
def ur (a_1:List Event)(b_2:List Event):Option Bool:=
 bif ((len a_1) != (len b_2)) then (some false) else (bD (ρ:=Bool) (ta a_1 b_2 0) fun u7:Unit=>some true)
def mX (a_1:List ae)(b_2:List ae)(self:Int→Option (Bool⊕Unit))(x3:Int):Option (Bool⊕Unit):=
 bif (decide (x3<(len a_1))) then ((aC a_1 x3).bind fun e4=>(aC b_2 x3).bind fun e5=>bif (!(e4==e5)) then (some (.inl false)) else (self (ac (x3+1)))) else (some (.inr ()))
def tc (a_1:List ae)(b_2:List ae): Int→Option (Bool⊕Unit):=aP (mX a_1 b_2)
theorem yA (a_1:List ae)(b_2:List ae): ∀a,Fin1 fun f=>mX a_1 b_2 f a:=by
 unfold mX
 repeat first|intro _|exact aX|exact bv|apply bw|apply bc|apply bd|apply bi|apply bx
theorem N8 (a_1:List ae)(b_2:List ae)(x:Int):tc a_1 b_2 x=mX a_1 b_2 (tc a_1 b_2) x:=cd (yA a_1 b_2) x
def zR (a_1:List ae)(b_2:List ae):Option Bool:=
 bif ((len a_1) != (len b_2)) then (some false) else (bD (ρ:=Bool) (tc a_1 b_2 0) fun u6:Unit=>some true)
def kO (bG:(Condition×Condition)→Option Bool)(a_1:List Condition)(b_2:List Condition)(self:Int→Option (Bool⊕Unit))(x3:Int):Option (Bool⊕Unit):=
 bif (decide (x3<(len a_1))) then ((aC a_1 x3).bind fun e4=>(aC b_2 x3).bind fun e5=>(bG (e4,e5)).bind fun r6=>bif (!r6) then (some (.inl false)) else (self (ac (x3+1)))) else (some (.inr ()))
def ql (bG:(Condition×Condition)→Option Bool)(a_1:List Condition)(b_2:List Condition): Int→Option (Bool⊕Unit):=aP (kO bG a_1 b_2)
theorem yy (bG:(Condition×Condition)→Option Bool)(a_1:List Condition)(b_2:List Condition): ∀a,Fin1 fun f=>kO bG a_1 b_2 f a:=by
 unfold kO
 repeat first|intro _|exact aX|exact bv|apply bw|apply bc|apply bd|apply bi|apply bx
theorem N6 (bG:(Condition×Condition)→Option Bool)(a_1:List Condition)(b_2:List Condition)(x:Int):ql bG a_1 b_2 x=kO bG a_1 b_2 (ql bG a_1 b_2) x:=cd (yy bG a_1 b_2) x
def vA (bG:(Condition×Condition)→Option Bool)(a_1:List Condition)(b_2:List Condition):Option Bool:=
 bif ((len a_1) != (len b_2)) then (some false) else (bD (ρ:=Bool) (ql bG a_1 b_2 0) fun u7:Unit=>some true)
def xR (bG:(Condition×Condition)→Option Bool)(a_1:Condition)(b_2:Condition):Option Bool:=
 bif (a_1.Op != b_2.Op) then (some false) else (bif (!(a_1.Name==b_2.Name)) then (some false) else (bif (a_1.Day != b_2.Day) then (some false) else ((vA bG a_1.Parts b_2.Parts).bind fun r3=>bif (!r3) then (some false) else (some true))))
def rV (bG:(Condition×Condition)→Option Bool)(x:Condition×Condition):Option Bool:=xR bG x.1 x.2
def J9 (a_1:Condition)(b_2:Condition):Option Bool:=aP rV (a_1,b_2)
theorem XR:∀x,Fin1 fun bG=>rV bG x:=by
 unfold rV xR
 repeat first|intro _|exact aX|exact bv|exact je|exact kD|exact iz|exact jr|exact iR|exact iT|apply bw|apply bc|apply bd|apply bi|apply bx|apply ph|unfold vA|unfold ql|unfold kO
theorem Z5 (a_1:Condition)(b_2:Condition):J9 a_1 b_2=xR (aP rV) a_1 b_2:=cd XR (a_1,b_2)
def G9 (a_1:Clause)(b_2:Clause):Option Bool:=
 bif (!(a_1.Id==b_2.Id)) then (some false) else (bif (a_1.Kind != b_2.Kind) then (some false) else (bif (a_1.Party != b_2.Party) then (some false) else (bif (!(a_1.Action==b_2.Action)) then (some false) else (bif (a_1.Other != b_2.Other) then (some false) else (bif (a_1.Amount != b_2.Amount) then (some false) else ((J9 a_1.When b_2.When).bind fun r3=>bif (!r3) then (some false) else (bif (a_1.Within != b_2.Within) then (some false) else (bif (!(a_1.Repair==b_2.Repair)) then (some false) else (some true)))))))))
def oO (a_1:List Clause)(b_2:List Clause)(self:Int→Option (Bool⊕Unit))(x3:Int):Option (Bool⊕Unit):=
 bif (decide (x3<(len a_1))) then ((aC a_1 x3).bind fun e4=>(aC b_2 x3).bind fun e5=>(G9 e4 e5).bind fun r6=>bif (!r6) then (some (.inl false)) else (self (ac (x3+1)))) else (some (.inr ()))
def wG (a_1:List Clause)(b_2:List Clause): Int→Option (Bool⊕Unit):=aP (oO a_1 b_2)
theorem E4 (a_1:List Clause)(b_2:List Clause): ∀a,Fin1 fun f=>oO a_1 b_2 f a:=by
 unfold oO
 repeat first|intro _|exact aX|exact bv|apply bw|apply bc|apply bd|apply bi|apply bx
theorem Sk (a_1:List Clause)(b_2:List Clause)(x:Int):wG a_1 b_2 x=oO a_1 b_2 (wG a_1 b_2) x:=cd (E4 a_1 b_2) x
def J8 (a_1:List Clause)(b_2:List Clause):Option Bool:=
 bif ((len a_1) != (len b_2)) then (some false) else (bD (ρ:=Bool) (wG a_1 b_2 0) fun u7:Unit=>some true)
def zN (a_1:Contract)(b_2:Contract):Option Bool:=
 (zR a_1.Parties b_2.Parties).bind fun r3=>bif (!r3) then (some false) else ((J8 a_1.Clauses b_2.Clauses).bind fun r4=>bif (!r4) then (some false) else (some true))
def kU (k_1:Int)(self:(Int×ae)→Option (ae⊕ae))(x2:Int×ae):Option (ae⊕ae):=
 bif (decide (x2.1>0)) then ((BE ([(IntKind.u8.wrap (ac (48+(x2.1.tmod 10))))].map fun n=>UInt8.ofNat n.toNat) x2.2).bind fun s3=>self ((ac (x2.1.tdiv 10)),s3)) else (some (.inr x2.2))
def tj (k_1:Int): (Int×ae)→Option (ae⊕ae):=aP (kU k_1)
theorem yG (k_1:Int): ∀a,Fin1 fun f=>kU k_1 f a:=by
 unfold kU
 repeat first|intro _|exact aX|exact bv|apply bw|apply bc|apply bd|apply bi|apply bx
theorem Ct (k_1:Int)(x:Int×ae):tj k_1 x=kU k_1 (tj k_1) x:=cd (yG k_1) x
def mo (k_1:Int):Option ae:=
 bif (decide (k_1≤0)) then (some ([109,48]:ae)) else (bD (ρ:=ae) (tj k_1 (k_1,([]:ae))) fun u4:ae=>(BE ([109]:ae) u4).bind fun s5=>some s5)
def kT (a_7:List ae)(k_8:Int)(self:(Int×Int×(List ae))→Option ((Int×(List ae))⊕(Int×(List ae))))(x3:Int×Int×(List ae)):Option ((Int×(List ae))⊕(Int×(List ae))):=
 bif (decide (x3.2.1<(len x3.2.2))) then ((mo x3.1).bind fun r4=>(aC x3.2.2 x3.2.1).bind fun e5=>self ((ac (x3.1+1)),(ac (x3.2.1+1)),(aK x3.2.2 x3.2.1 r4))) else (some (.inr (x3.1,x3.2.2)))
def th (a_7:List ae)(k_8:Int): (Int×Int×(List ae))→Option ((Int×(List ae))⊕(Int×(List ae))):=aP (kT a_7 k_8)
theorem yF (a_7:List ae)(k_8:Int): ∀a,Fin1 fun f=>kT a_7 k_8 f a:=by
 unfold kT
 repeat first|intro _|exact aX|exact bv|apply bw|apply bc|apply bd|apply bi|apply bx
theorem Cp (a_7:List ae)(k_8:Int)(x:Int×Int×(List ae)):th a_7 k_8 x=kT a_7 k_8 (th a_7 k_8) x:=cd (yF a_7 k_8) x
def Ab (a_7:List ae)(k_8:Int):Option (Int×(List ae)):=
 bD (ρ:=Int×(List ae)) (th a_7 k_8 (k_8,0,a_7)) fun u6:Int×(List ae)=>bif Nat.beq u6.2.length a_7.length then (some (u6.1,u6.2)) else none
def jR (cw:((List Condition)×Int)→Option (Int×(List Condition)))(a_6:List Condition)(k_7:Int)(self:(Int×Int×(List Condition))→Option ((Int×(List Condition))⊕(Int×(List Condition))))(x3:Int×Int×(List Condition)):Option ((Int×(List Condition))⊕(Int×(List Condition))):=
 bif (decide (x3.2.1<(len x3.2.2))) then ((aC x3.2.2 x3.2.1).bind fun e4=>(mo (ac (x3.1+1))).bind fun r5=>(aC (aK x3.2.2 x3.2.1 (Condition.mk x3.1 e4.Name e4.Day e4.Parts)) x3.2.1).bind fun e6=>cj (aK (aK x3.2.2 x3.2.1 (Condition.mk x3.1 e4.Name e4.Day e4.Parts)) x3.2.1 (Condition.mk e6.Op r5 e6.Day e6.Parts)) fun rw7:List Condition=>(aC rw7 x3.2.1).bind fun e9=>cj (aK rw7 x3.2.1 (Condition.mk e9.Op e9.Name (ac ((ac (x3.1+1))+1)) e9.Parts)) fun rw10:List Condition=>(aC rw10 x3.2.1).bind fun e13=>(cw (e13.Parts,(ac ((ac ((ac (x3.1+1))+1))+1)))).bind fun r14=>bif Nat.beq r14.2.length e13.Parts.length then (cj (aK rw10 x3.2.1 (Condition.mk e13.Op e13.Name e13.Day r14.2)) fun rw16:List Condition=>self (r14.1,(ac (x3.2.1+1)),rw16)) else none) else (some (.inr (x3.1,x3.2.2)))
def lU (cw:((List Condition)×Int)→Option (Int×(List Condition)))(a_6:List Condition)(k_7:Int): (Int×Int×(List Condition))→Option ((Int×(List Condition))⊕(Int×(List Condition))):=aP (jR cw a_6 k_7)
theorem yD (cw:((List Condition)×Int)→Option (Int×(List Condition)))(a_6:List Condition)(k_7:Int): ∀a,Fin1 fun f=>jR cw a_6 k_7 f a:=by
 unfold jR
 repeat first|intro _|exact aX|exact bv|apply bw|apply bc|apply bd|apply bi|apply bx
theorem Cg (cw:((List Condition)×Int)→Option (Int×(List Condition)))(a_6:List Condition)(k_7:Int)(x:Int×Int×(List Condition)):lU cw a_6 k_7 x=jR cw a_6 k_7 (lU cw a_6 k_7) x:=cd (yD cw a_6 k_7) x
def tf (cw:((List Condition)×Int)→Option (Int×(List Condition)))(a_6:List Condition)(k_7:Int):Option (Int×(List Condition)):=
 bD (ρ:=Int×(List Condition)) (lU cw a_6 k_7 (k_7,0,a_6)) fun u20:Int×(List Condition)=>bif Nat.beq u20.2.length a_6.length then (some (u20.1,u20.2)) else none
def kR (cw:((List Condition)×Int)→Option (Int×(List Condition)))(x:(List Condition)×Int):Option (Int×(List Condition)):=tf cw x.1 x.2
def N9 (a_6:List Condition)(k_7:Int):Option (Int×(List Condition)):=aP kR (a_6,k_7)
theorem TN:∀x,Fin1 fun cw=>kR cw x:=by
 unfold kR tf
 repeat first|intro _|exact aX|exact bv|exact je|exact kD|exact iz|exact jr|exact iR|exact iT|apply bw|apply bc|apply bd|apply bi|apply bx|apply ph|unfold lU|unfold jR
theorem Xh (a_6:List Condition)(k_7:Int):N9 a_6 k_7=tf (aP kR) a_6 k_7:=cd TN (a_6,k_7)
def kQ (a_7:List Clause)(k_8:Int)(self:(Int×Int×(List Clause))→Option ((Int×(List Clause))⊕(Int×(List Clause))))(x3:Int×Int×(List Clause)):Option ((Int×(List Clause))⊕(Int×(List Clause))):=
 bif (decide (x3.2.1<(len x3.2.2))) then ((mo x3.1).bind fun r4=>(aC x3.2.2 x3.2.1).bind fun e5=>(aC (aK x3.2.2 x3.2.1 (Clause.mk r4 e5.Kind e5.Party e5.Action e5.Other e5.Amount e5.When e5.Within e5.Repair)) x3.2.1).bind fun e6=>cj (aK (aK x3.2.2 x3.2.1 (Clause.mk r4 e5.Kind e5.Party e5.Action e5.Other e5.Amount e5.When e5.Within e5.Repair)) x3.2.1 (Clause.mk e6.Id (ac (x3.1+1)) e6.Party e6.Action e6.Other e6.Amount e6.When e6.Within e6.Repair)) fun rw7:List Clause=>(aC rw7 x3.2.1).bind fun e9=>cj (aK rw7 x3.2.1 (Clause.mk e9.Id e9.Kind (ac ((ac (x3.1+1))+1)) e9.Action e9.Other e9.Amount e9.When e9.Within e9.Repair)) fun rw10:List Clause=>(mo (ac ((ac ((ac (x3.1+1))+1))+1))).bind fun r13=>(aC rw10 x3.2.1).bind fun e14=>cj (aK rw10 x3.2.1 (Clause.mk e14.Id e14.Kind e14.Party r13 e14.Other e14.Amount e14.When e14.Within e14.Repair)) fun rw15:List Clause=>(aC rw15 x3.2.1).bind fun e19=>cj (aK rw15 x3.2.1 (Clause.mk e19.Id e19.Kind e19.Party e19.Action (ac ((ac ((ac ((ac (x3.1+1))+1))+1))+1)) e19.Amount e19.When e19.Within e19.Repair)) fun rw20:List Clause=>(aC rw20 x3.2.1).bind fun e25=>cj (aK rw20 x3.2.1 (Clause.mk e25.Id e25.Kind e25.Party e25.Action e25.Other (ac ((ac ((ac ((ac ((ac (x3.1+1))+1))+1))+1))+1)) e25.When e25.Within e25.Repair)) fun rw26:List Clause=>(aC rw26 x3.2.1).bind fun e32=>cj (aK rw26 x3.2.1 (Clause.mk e32.Id e32.Kind e32.Party e32.Action e32.Other e32.Amount (Condition.mk (ac ((ac ((ac ((ac ((ac ((ac (x3.1+1))+1))+1))+1))+1))+1)) e32.When.Name e32.When.Day e32.When.Parts) e32.Within e32.Repair)) fun rw33:List Clause=>(mo (ac ((ac ((ac ((ac ((ac ((ac ((ac (x3.1+1))+1))+1))+1))+1))+1))+1))).bind fun r40=>(aC rw33 x3.2.1).bind fun e41=>cj (aK rw33 x3.2.1 (Clause.mk e41.Id e41.Kind e41.Party e41.Action e41.Other e41.Amount (Condition.mk e41.When.Op r40 e41.When.Day e41.When.Parts) e41.Within e41.Repair)) fun rw42:List Clause=>(aC rw42 x3.2.1).bind fun e50=>cj (aK rw42 x3.2.1 (Clause.mk e50.Id e50.Kind e50.Party e50.Action e50.Other e50.Amount (Condition.mk e50.When.Op e50.When.Name (ac ((ac ((ac ((ac ((ac ((ac ((ac ((ac (x3.1+1))+1))+1))+1))+1))+1))+1))+1)) e50.When.Parts) e50.Within e50.Repair)) fun rw51:List Clause=>(aC rw51 x3.2.1).bind fun e60=>(N9 e60.When.Parts (ac ((ac ((ac ((ac ((ac ((ac ((ac ((ac ((ac (x3.1+1))+1))+1))+1))+1))+1))+1))+1))+1))).bind fun r61=>bif Nat.beq r61.2.length e60.When.Parts.length then (cj (aK rw51 x3.2.1 (Clause.mk e60.Id e60.Kind e60.Party e60.Action e60.Other e60.Amount (Condition.mk e60.When.Op e60.When.Name e60.When.Day r61.2) e60.Within e60.Repair)) fun rw63:List Clause=>(aC rw63 x3.2.1).bind fun e73=>cj (aK rw63 x3.2.1 (Clause.mk e73.Id e73.Kind e73.Party e73.Action e73.Other e73.Amount e73.When r61.1 e73.Repair)) fun rw74:List Clause=>(mo (ac (r61.1+1))).bind fun r85=>(aC rw74 x3.2.1).bind fun e86=>cj (aK rw74 x3.2.1 (Clause.mk e86.Id e86.Kind e86.Party e86.Action e86.Other e86.Amount e86.When e86.Within r85)) fun rw87:List Clause=>self ((ac ((ac (r61.1+1))+1)),(ac (x3.2.1+1)),rw87)) else none) else (some (.inr (x3.1,x3.2.2)))
def mY (a_7:List Clause)(k_8:Int): (Int×Int×(List Clause))→Option ((Int×(List Clause))⊕(Int×(List Clause))):=aP (kQ a_7 k_8)
theorem yC (a_7:List Clause)(k_8:Int): ∀a,Fin1 fun f=>kQ a_7 k_8 f a:=by
 unfold kQ
 repeat first|intro _|exact aX|exact bv|apply bw|apply bc|apply bd|apply bi|apply bx
theorem Cf (a_7:List Clause)(k_8:Int)(x:Int×Int×(List Clause)):mY a_7 k_8 x=kQ a_7 k_8 (mY a_7 k_8) x:=cd (yC a_7 k_8) x
def zU (a_7:List Clause)(k_8:Int):Option (Int×(List Clause)):=
 bD (ρ:=Int×(List Clause)) (mY a_7 k_8 (k_8,0,a_7)) fun u99:Int×(List Clause)=>bif Nat.beq u99.2.length a_7.length then (some (u99.1,u99.2)) else none
def zX (a_7:Contract)(k_8:Int):Option Int:=
 (Ab a_7.Parties k_8).bind fun r3=>bif Nat.beq r3.2.length a_7.Parties.length then ((zU a_7.Clauses r3.1).bind fun r5=>bif Nat.beq r5.2.length a_7.Clauses.length then (some r5.1) else none) else none
def kS (a_6:List Event)(k_7:Int)(self:(Int×Int×(List Event))→Option ((Int×(List Event))⊕(Int×(List Event))))(x3:Int×Int×(List Event)):Option ((Int×(List Event))⊕(Int×(List Event))):=
 bif (decide (x3.2.1<(len x3.2.2))) then ((aC x3.2.2 x3.2.1).bind fun e4=>(aC (aK x3.2.2 x3.2.1 (Event.mk x3.1 e4.Party e4.Action e4.Amount)) x3.2.1).bind fun e5=>cj (aK (aK x3.2.2 x3.2.1 (Event.mk x3.1 e4.Party e4.Action e4.Amount)) x3.2.1 (Event.mk e5.Day (ac (x3.1+1)) e5.Action e5.Amount)) fun rw6:List Event=>(mo (ac ((ac (x3.1+1))+1))).bind fun r8=>(aC rw6 x3.2.1).bind fun e9=>cj (aK rw6 x3.2.1 (Event.mk e9.Day e9.Party r8 e9.Amount)) fun rw10:List Event=>(aC rw10 x3.2.1).bind fun e13=>cj (aK rw10 x3.2.1 (Event.mk e13.Day e13.Party e13.Action (ac ((ac ((ac (x3.1+1))+1))+1)))) fun rw14:List Event=>self ((ac ((ac ((ac ((ac (x3.1+1))+1))+1))+1)),(ac (x3.2.1+1)),rw14)) else (some (.inr (x3.1,x3.2.2)))
def tg (a_6:List Event)(k_7:Int): (Int×Int×(List Event))→Option ((Int×(List Event))⊕(Int×(List Event))):=aP (kS a_6 k_7)
theorem yE (a_6:List Event)(k_7:Int): ∀a,Fin1 fun f=>kS a_6 k_7 f a:=by
 unfold kS
 repeat first|intro _|exact aX|exact bv|apply bw|apply bc|apply bd|apply bi|apply bx
theorem Cm (a_6:List Event)(k_7:Int)(x:Int×Int×(List Event)):tg a_6 k_7 x=kS a_6 k_7 (tg a_6 k_7) x:=cd (yE a_6 k_7) x
def zZ (a_6:List Event)(k_7:Int):Option (Int×(List Event)):=
 bD (ρ:=Int×(List Event)) (tg a_6 k_7 (k_7,0,a_6)) fun u18:Int×(List Event)=>bif Nat.beq u18.2.length a_6.length then (some (u18.1,u18.2)) else none
def kP (a_1:List Event)(k_2:Int)(self:(Int×Int)→Option (Int⊕Int))(x3:Int×Int):Option (Int⊕Int):=
 bif (decide (x3.2<(len a_1))) then ((aC a_1 x3.2).bind fun e4=>bif (e4.Day != x3.1) then (some (.inl (-1))) else ((aC a_1 x3.2).bind fun e5=>bif (e5.Party != (ac (x3.1+1))) then (some (.inl (-1))) else ((aC a_1 x3.2).bind fun e6=>(mo (ac ((ac (x3.1+1))+1))).bind fun r7=>bif (!(e6.Action==r7)) then (some (.inl (-1))) else ((aC a_1 x3.2).bind fun e8=>bif (e8.Amount != (ac ((ac ((ac (x3.1+1))+1))+1))) then (some (.inl (-1))) else (self ((ac ((ac ((ac ((ac (x3.1+1))+1))+1))+1)),(ac (x3.2+1)))))))) else (some (.inr x3.1))
def te (a_1:List Event)(k_2:Int): (Int×Int)→Option (Int⊕Int):=aP (kP a_1 k_2)
theorem yB (a_1:List Event)(k_2:Int): ∀a,Fin1 fun f=>kP a_1 k_2 f a:=by
 unfold kP
 repeat first|intro _|exact aX|exact bv|apply bw|apply bc|apply bd|apply bi|apply bx
theorem Cc (a_1:List Event)(k_2:Int)(x:Int×Int):te a_1 k_2 x=kP a_1 k_2 (te a_1 k_2) x:=cd (yB a_1 k_2) x
def vC (a_1:List Event)(k_2:Int):Option Int:=
 bD (ρ:=Int) (te a_1 k_2 (k_2,0)) fun u9:Int=>some u9
def fX (gN:Contract):Option Bool:=
 (Ak gN 1048576).bind fun r2=>bif (decide (r2<0)) then (some true) else ((sw gN).bind fun r3=>(A6 r3).bind fun r4=>(sw gN).bind fun r5=>(G3 r5).bind fun r6=>(ur r6.1 r4.1).bind fun r7=>cj (bif (!r7) then true else (!(r6.2==r4.2))) fun u8:Bool=>bif u8 then (some false) else ((sw gN).bind fun r9=>(zN r5 r9).bind fun r10=>bif (!r10) then (some false) else ((zX r5 1).bind fun r11=>bD (ρ:=Bool) (bif (decide (r11<0)) then (some (.inr true)) else ((ur r6.1 r4.1).bind fun r21=>cj (bif (!r21) then true else (!(r6.2==r4.2))) fun u22:Bool=>some (.inr u22))) fun u12:Bool=>bif u12 then (some false) else ((zZ r6.1 1).bind fun r13=>bif Nat.beq r13.2.length r6.1.length then ((vC r13.2 1).bind fun r15=>bif (decide (r15<0)) then (some false) else (bif (r15 != r13.1) then (some false) else ((sw gN).bind fun r16=>(G3 r16).bind fun r17=>(ur r17.1 r4.1).bind fun r18=>cj (bif (!r18) then true else (!(r17.2==r4.2))) fun u19:Bool=>bif u19 then (some false) else ((vC r13.2 1).bind fun r20=>bif (decide (r20<0)) then (some false) else (bif (r20 != r13.1) then (some false) else (some true)))))) else none))))
end
end Go.Ln
