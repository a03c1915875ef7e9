/-
  What each function computes.
-/
import Derived.Test.YtcfddlacocdpoaaGreatDoorFnExactPartyReportLnC
set_option maxHeartbeats 4000000
set_option linter.unusedVariables false
set_option linter.unusedSimpArgs false
set_option maxRecDepth 100000
namespace Go.Ln
open Go
noncomputable section
structure Condition where
 Op:Int
 Name:ac
 Day:Int
 Parts:List Condition
mutual
def aH:Condition→V
 | ⟨a0,a1,a2,a3⟩=>.agg [I a0,str a1,I a2,.isl false (dK a3)]
def dK:List Condition→List V
 | []=>[]
 | x::xs=>aH x::dK xs
end
theorem pk:∀xs,dK xs=xs.map aH
 | []=>by simp[dK]
 | x::xs=>by simp[dK,pk xs]
def bM (x:Condition):V:=.agg [I x.Op,str x.Name,I x.Day,.isl false (x.Parts.map aH)]
abbrev au (x:Condition):V:=.agg [I x.Op,str x.Name,I x.Day,.isl false (x.Parts.map aH)]
theorem dD (x:Condition):aH x=bM x:=by cases x;simp only[aH,bM,pk]
mutual
theorem fJ:∀(a b:Condition),aH a=aH b→a=b
 | ⟨a0,a1,a2,a3⟩,⟨b0,b1,b2,b3⟩,h=>by
  simp only[aH] at h
  have k0:=V.agg.inj h
  obtain⟨h0,k1⟩:=List.cons.inj k0
  obtain rfl:=bi a0 b0 h0
  obtain⟨h1,k2⟩:=List.cons.inj k1
  obtain rfl:=b8 a1 b1 h1
  obtain⟨h2,k3⟩:=List.cons.inj k2
  obtain rfl:=bi a2 b2 h2
  obtain⟨h3,k4⟩:=List.cons.inj k3
  have e3:dK a3=dK b3:=by simpa using h3
  obtain rfl:=pj a3 b3 e3
  rfl
theorem pj:∀(a b:List Condition),dK a=dK b→a=b
 | [],[],_=>rfl
 | [],_::_,h=>by simp[dK] at h
 | _::_,[],h=>by simp[dK] at h
 | x::xs,y::ys,h=>by
  simp only[dK,List.cons.injEq] at h
  rw[fJ x y h.1,pj xs ys h.2]
end
theorem dE (a b:Condition)(h:bM a=bM b):a=b:=fJ a b (by rw[dD,dD,h])
mutual
def aC:Condition→V
 | ⟨a0,a1,a2,a3⟩=>.agg [I a0,str a1,I a2,.usl 4 (cW a3)]
def cW:List Condition→List V
 | []=>[]
 | x::xs=>aC x::cW xs
end
theorem po:∀xs,cW xs=xs.map aC
 | []=>by simp[cW]
 | x::xs=>by simp[cW,po xs]
def sZ (x:Condition):V:=.agg [I x.Op,str x.Name,I x.Day,.usl 4 (x.Parts.map aC)]
abbrev qJ (x:Condition):V:=.agg [I x.Op,str x.Name,I x.Day,.usl 4 (x.Parts.map aC)]
theorem mT (x:Condition):aC x=sZ x:=by cases x;simp only[aC,sZ,po]
mutual
theorem yE:∀(a b:Condition),aC a=aC b→a=b
 | ⟨a0,a1,a2,a3⟩,⟨b0,b1,b2,b3⟩,h=>by
  simp only[aC] at h
  have k0:=V.agg.inj h
  obtain⟨h0,k1⟩:=List.cons.inj k0
  obtain rfl:=bi a0 b0 h0
  obtain⟨h1,k2⟩:=List.cons.inj k1
  obtain rfl:=b8 a1 b1 h1
  obtain⟨h2,k3⟩:=List.cons.inj k2
  obtain rfl:=bi a2 b2 h2
  obtain⟨h3,k4⟩:=List.cons.inj k3
  have e3:cW a3=cW b3:=by simpa using h3
  obtain rfl:=pn a3 b3 e3
  rfl
theorem pn:∀(a b:List Condition),cW a=cW b→a=b
 | [],[],_=>rfl
 | [],_::_,h=>by simp[cW] at h
 | _::_,[],h=>by simp[cW] at h
 | x::xs,y::ys,h=>by
  simp only[cW,List.cons.injEq] at h
  rw[yE x y h.1,pn xs ys h.2]
end
mutual
theorem qv:∀x:Condition,eH (aC x)=aH x
 | ⟨a0,a1,a2,a3⟩=>by simp[aC,aH,eH,fS,str,pm]
theorem pm:∀xs:List Condition,fS (cW xs)=dK xs
 | []=>by simp[cW,dK,fS]
 | x::xs=>by simp[cW,dK,fS,qv x,pm xs]
end
mutual
theorem wW:∀x:Condition,cY (aC x)=false
 | ⟨a0,a1,a2,a3⟩=>by simp[aC,cY,dH,str,oU]
theorem oU:∀xs:List Condition,dH (cW xs)=false
 | []=>by simp[cW,dH]
 | x::xs=>by simp[cW,dH,wW x,oU xs]
end
structure Clause where
 Id:ac
 Kind:Int
 Party:Int
 Action:ac
 Other:Int
 Amount:Int
 When:Condition
 Within:Int
 Repair:ac
def ap (x:Clause):V:=.agg [str x.Id,I x.Kind,I x.Party,str x.Action,I x.Other,I x.Amount,I x.When.Op,str x.When.Name,I x.When.Day,.isl false (x.When.Parts.map aH),I x.Within,str x.Repair]
abbrev ao (x:Clause):V:=.agg [str x.Id,I x.Kind,I x.Party,str x.Action,I x.Other,I x.Amount,I x.When.Op,str x.When.Name,I x.When.Day,.isl false (x.When.Parts.map aH),I x.Within,str x.Repair]
theorem dC (a b:Clause)(h:ap a=ap b):a=b:=by
 obtain⟨p0,p1,p2,p3,p4,p5,⟨p6,p7,p8,p9⟩,p10,p11⟩:=a
 obtain⟨q0,q1,q2,q3,q4,q5,⟨q6,q7,q8,q9⟩,q10,q11⟩:=b
 replace h:=V.agg.inj h
 obtain⟨h0,h⟩:=List.cons.inj h
 obtain rfl:=b8 p0 q0 h0
 obtain⟨h1,h⟩:=List.cons.inj h
 obtain rfl:=bi p1 q1 h1
 obtain⟨h2,h⟩:=List.cons.inj h
 obtain rfl:=bi p2 q2 h2
 obtain⟨h3,h⟩:=List.cons.inj h
 obtain rfl:=b8 p3 q3 h3
 obtain⟨h4,h⟩:=List.cons.inj h
 obtain rfl:=bi p4 q4 h4
 obtain⟨h5,h⟩:=List.cons.inj h
 obtain rfl:=bi p5 q5 h5
 obtain⟨h6,h⟩:=List.cons.inj h
 obtain rfl:=bi p6 q6 h6
 obtain⟨h7,h⟩:=List.cons.inj h
 obtain rfl:=b8 p7 q7 h7
 obtain⟨h8,h⟩:=List.cons.inj h
 obtain rfl:=bi p8 q8 h8
 obtain⟨h9,h⟩:=List.cons.inj h
 obtain rfl:=(b7 fJ) p9 q9 h9
 obtain⟨h10,h⟩:=List.cons.inj h
 obtain rfl:=bi p10 q10 h10
 obtain⟨h11,h⟩:=List.cons.inj h
 obtain rfl:=b8 p11 q11 h11
 rfl
def bd (x:Clause):V:=.agg [str x.Id,I x.Kind,I x.Party,str x.Action,I x.Other,I x.Amount,I x.When.Op,str x.When.Name,I x.When.Day,.usl 4 (x.When.Parts.map aC),I x.Within,str x.Repair]
abbrev vv (x:Clause):V:=.agg [str x.Id,I x.Kind,I x.Party,str x.Action,I x.Other,I x.Amount,I x.When.Op,str x.When.Name,I x.When.Day,.usl 4 (x.When.Parts.map aC),I x.Within,str x.Repair]
theorem gA (x:Clause):eH (bd x)=ap x:=ahl (kZ rfl (kZ rfl (kZ rfl (kZ rfl (kZ rfl (kZ rfl (kZ rfl (kZ rfl (kZ rfl (kZ (abV (ci qv)) (kZ rfl (kZ rfl rfl))))))))))))
structure Contract where
 Parties:List ac
 Clauses:List Clause
def aM (x:Contract):V:=.agg [.isl false (x.Parties.map str),.isl false (x.Clauses.map ap)]
abbrev aa (x:Contract):V:=.agg [.isl false (x.Parties.map str),.isl false (x.Clauses.map ap)]
theorem aP (a b:Contract)(h:aM a=aM b):a=b:=by
 obtain⟨p0,p1⟩:=a
 obtain⟨q0,q1⟩:=b
 replace h:=V.agg.inj h
 obtain⟨h0,h⟩:=List.cons.inj h
 obtain rfl:=(b7 b8) p0 q0 h0
 obtain⟨h1,h⟩:=List.cons.inj h
 obtain rfl:=(b7 dC) p1 q1 h1
 rfl
structure Duty where
 Clause:Int
 Since:Int
 Due:Int
 Status:Int
def ah (x:Duty):V:=.agg [I x.Clause,I x.Since,I x.Due,I x.Status]
abbrev agA (x:Duty):V:=.agg [I x.Clause,I x.Since,I x.Due,I x.Status]
theorem J7 (x:Duty):(cells (ah x)).length=4∧(cells (ah x)).all fx=true:=⟨rfl,rfl⟩
theorem iX (x:Duty):eH (ah x)=ah x:=rfl
theorem eh (a b:Duty)(h:ah a=ah b):a=b:=by
 obtain⟨p0,p1,p2,p3⟩:=a
 obtain⟨q0,q1,q2,q3⟩:=b
 replace h:=V.agg.inj h
 obtain⟨h0,h⟩:=List.cons.inj h
 obtain rfl:=bi p0 q0 h0
 obtain⟨h1,h⟩:=List.cons.inj h
 obtain rfl:=bi p1 q1 h1
 obtain⟨h2,h⟩:=List.cons.inj h
 obtain rfl:=bi p2 q2 h2
 obtain⟨h3,h⟩:=List.cons.inj h
 obtain rfl:=bi p3 q3 h3
 rfl
structure State where
 Day:Int
 Facts:List ac
 Duties:List Duty
 Balances:List Int
 Over:Bool
def bA (x:State):V:=.agg [I x.Day,.isl false (x.Facts.map str),.isl false (x.Duties.map ah),.isl false (x.Balances.map I),B x.Over]
abbrev ae (x:State):V:=.agg [I x.Day,.isl false (x.Facts.map str),.isl false (x.Duties.map ah),.isl false (x.Balances.map I),B x.Over]
theorem bN (a b:State)(h:bA a=bA b):a=b:=by
 obtain⟨p0,p1,p2,p3,p4⟩:=a
 obtain⟨q0,q1,q2,q3,q4⟩:=b
 replace h:=V.agg.inj h
 obtain⟨h0,h⟩:=List.cons.inj h
 obtain rfl:=bi p0 q0 h0
 obtain⟨h1,h⟩:=List.cons.inj h
 obtain rfl:=(b7 b8) p1 q1 h1
 obtain⟨h2,h⟩:=List.cons.inj h
 obtain rfl:=(b7 eh) p2 q2 h2
 obtain⟨h3,h⟩:=List.cons.inj h
 obtain rfl:=(b7 bi) p3 q3 h3
 obtain⟨h4,h⟩:=List.cons.inj h
 obtain rfl:=agB p4 q4 h4
 rfl
mutual
def pt:Condition→Prop
 | ⟨a0,a1,a2,a3⟩=>oP a0∧IU a1∧oP a2∧(a3.length≤maxLen∧MZ a3)
def MZ:List Condition→Prop
 | []=>True
 | x::xs=>pt x∧MZ xs
end
theorem M0:∀xs,MZ xs↔∀x∈xs,pt x
 | []=>by simp[MZ]
 | x::xs=>by simp[MZ,M0 xs]
theorem MY (x:Condition):pt x↔oP x.Op∧IU x.Name∧oP x.Day∧tj pt x.Parts:=by cases x;simp only[pt,M0,tj]
def tk (x:Clause):Prop:=IU x.Id∧oP x.Kind∧oP x.Party∧IU x.Action∧oP x.Other∧oP x.Amount∧pt x.When∧oP x.Within∧IU x.Repair
def YY (x:Contract):Prop:=(tj IU) x.Parties∧(tj tk) x.Clauses
def Kf (x:Duty):Prop:=oP x.Clause∧oP x.Since∧oP x.Due∧oP x.Status
def D4 (x:State):Prop:=oP x.Day∧(tj IU) x.Facts∧(tj Kf) x.Duties∧(tj oP) x.Balances∧okB x.Over
def nK (a_1:List ac)(ay:Int)(self:(Int×Int)→Option (Int⊕Int))(x3:Int×Int):Option (Int⊕Int):=
 bif (decide (x3.2<(len a_1))) then ((aI a_1 x3.2).bind fun e4=>bif (decide ((ai (x3.1 - (len e4)))<0)) then (some (.inl (-1))) else (self ((ai (x3.1 - (len e4))),(ai (x3.2+1))))) else (some (.inr x3.1))
def ub (a_1:List ac)(ay:Int): (Int×Int)→Option (Int⊕Int):=aN (nK a_1 ay)
theorem Ah (a_1:List ac)(ay:Int): ∀a,Fin1 fun f=>nK a_1 ay f a:=by
 unfold nK
 repeat first|intro _|exact aX|exact bw|apply bB|apply bf|apply bg|apply bo|apply bC
theorem RB (a_1:List ac)(ay:Int)(x:Int×Int):ub a_1 ay x=nK a_1 ay (ub a_1 ay) x:=bH (Ah a_1 ay) x
def xk (a_1:List ac)(ay:Int):Option Int:=
 bif (decide ((ai (ay - (len a_1)))<0)) then (some (-1)) else (be (ρ:=Int) (ub a_1 ay ((ai (ay - (len a_1))),0)) fun u5:Int=>some u5)
def lN (bD:(Condition×Int)→Option Int)(a_1:List Condition)(ay:Int)(self:(Int×Int)→Option (Int⊕Int))(x3:Int×Int):Option (Int⊕Int):=
 bif (decide (x3.2<(len a_1))) then ((aI a_1 x3.2).bind fun e4=>(bD (e4,x3.1)).bind fun r5=>bif (decide (r5<0)) then (some (.inl (-1))) else (self (r5,(ai (x3.2+1))))) else (some (.inr x3.1))
def rD (bD:(Condition×Int)→Option Int)(a_1:List Condition)(ay:Int): (Int×Int)→Option (Int⊕Int):=aN (lN bD a_1 ay)
theorem Af (bD:(Condition×Int)→Option Int)(a_1:List Condition)(ay:Int): ∀a,Fin1 fun f=>lN bD a_1 ay f a:=by
 unfold lN
 repeat first|intro _|exact aX|exact bw|apply bB|apply bf|apply bg|apply bo|apply bC
theorem RA (bD:(Condition×Int)→Option Int)(a_1:List Condition)(ay:Int)(x:Int×Int):rD bD a_1 ay x=lN bD a_1 ay (rD bD a_1 ay) x:=bH (Af bD a_1 ay) x
def xj (bD:(Condition×Int)→Option Int)(a_1:List Condition)(ay:Int):Option Int:=
 bif (decide ((ai (ay - (len a_1)))<0)) then (some (-1)) else (be (ρ:=Int) (rD bD a_1 ay ((ai (ay - (len a_1))),0)) fun u6:Int=>some u6)
def ua (bD:(Condition×Int)→Option Int)(a_1:Condition)(ay:Int):Option Int:=
 bif (decide ((ai (ay - (len a_1.Name)))<0)) then (some (-1)) else ((xj bD a_1.Parts (ai (ay - (len a_1.Name)))).bind fun r3=>bif (decide (r3<0)) then (some (-1)) else (some r3))
def qn (bD:(Condition×Int)→Option Int)(x:Condition×Int):Option Int:=ua bD x.1 x.2
def xg (a_1:Condition)(ay:Int):Option Int:=aN qn (a_1,ay)
theorem YF:∀x,Fin1 fun bD=>qn bD x:=by
 unfold qn ua
 repeat first|intro _|exact aX|exact bw|exact kh|exact mG|exact iY|exact kH|exact jz|exact jA|apply bB|apply bf|apply bg|apply bo|apply bC|apply rc|unfold xj|unfold rD|unfold lN
theorem ab7 (a_1:Condition)(ay:Int):xg a_1 ay=ua (aN qn) a_1 ay:=bH YF (a_1,ay)
def vz (a_1:Clause)(ay:Int):Option Int:=
 bif (decide ((ai (ay - (len a_1.Id)))<0)) then (some (-1)) else (bif (decide ((ai ((ai (ay - (len a_1.Id))) - (len a_1.Action)))<0)) then (some (-1)) else ((xg a_1.When (ai ((ai (ay - (len a_1.Id))) - (len a_1.Action)))).bind fun r3=>bif (decide (r3<0)) then (some (-1)) else (bif (decide ((ai (r3 - (len a_1.Repair)))<0)) then (some (-1)) else (some (ai (r3 - (len a_1.Repair)))))))
def nJ (a_1:List Clause)(ay:Int)(self:(Int×Int)→Option (Int⊕Int))(x3:Int×Int):Option (Int⊕Int):=
 bif (decide (x3.2<(len a_1))) then ((aI a_1 x3.2).bind fun e4=>(vz e4 x3.1).bind fun r5=>bif (decide (r5<0)) then (some (.inl (-1))) else (self (r5,(ai (x3.2+1))))) else (some (.inr x3.1))
def tZ (a_1:List Clause)(ay:Int): (Int×Int)→Option (Int⊕Int):=aN (nJ a_1 ay)
theorem Ae (a_1:List Clause)(ay:Int): ∀a,Fin1 fun f=>nJ a_1 ay f a:=by
 unfold nJ
 repeat first|intro _|exact aX|exact bw|apply bB|apply bf|apply bg|apply bo|apply bC
theorem Rz (a_1:List Clause)(ay:Int)(x:Int×Int):tZ a_1 ay x=nJ a_1 ay (tZ a_1 ay) x:=bH (Ae a_1 ay) x
def Co (a_1:List Clause)(ay:Int):Option Int:=
 bif (decide ((ai (ay - (len a_1)))<0)) then (some (-1)) else (be (ρ:=Int) (tZ a_1 ay ((ai (ay - (len a_1))),0)) fun u6:Int=>some u6)
def Ct (a_1:Contract)(ay:Int):Option Int:=
 (xk a_1.Parties ay).bind fun r3=>bif (decide (r3<0)) then (some (-1)) else ((Co a_1.Clauses r3).bind fun r4=>bif (decide (r4<0)) then (some (-1)) else (some r4))
def Cw (a_1:List Duty)(ay:Int):Option Int:=
 bif (decide ((ai (ay - (len a_1)))<0)) then (some (-1)) else (some (ai (ay - (len a_1))))
def Cy (a_1:List Int)(ay:Int):Option Int:=
 bif (decide ((ai (ay - (len a_1)))<0)) then (some (-1)) else (some (ai (ay - (len a_1))))
def CA (a_1:State)(ay:Int):Option Int:=
 (xk a_1.Facts ay).bind fun r3=>bif (decide (r3<0)) then (some (-1)) else ((Cw a_1.Duties r3).bind fun r4=>bif (decide (r4<0)) then (some (-1)) else ((Cy a_1.Balances r4).bind fun r5=>bif (decide (r5<0)) then (some (-1)) else (some r5)))
def nO (a_1:List ac)(self:(Int×(List ac))→Option ((List ac)⊕(List ac)))(x3:Int×(List ac)):Option ((List ac)⊕(List ac)):=
 bif (decide (x3.1<(len a_1))) then ((aI a_1 x3.1).bind fun e4=>(aI x3.2 x3.1).bind fun e5=>self ((ai (x3.1+1)),(dw x3.2 x3.1 e4))) else (some (.inr x3.2))
def ui (a_1:List ac): (Int×(List ac))→Option ((List ac)⊕(List ac)):=aN (nO a_1)
theorem Am (a_1:List ac): ∀a,Fin1 fun f=>nO a_1 f a:=by
 unfold nO
 repeat first|intro _|exact aX|exact bw|apply bB|apply bf|apply bg|apply bo|apply bC
theorem RG (a_1:List ac)(x:Int×(List ac)):ui a_1 x=nO a_1 (ui a_1) x:=bH (Am a_1) x
def xt (a_1:List ac):Option (List ac):=
 (tf 16 [] (len a_1)).bind fun m2=>be (ρ:=(List ac)) (ui a_1 (0,m2)) fun u6:(List ac)=>some u6
def lO (bE:Condition→Option Condition)(a_1:List Condition)(self:(Int×(List Condition))→Option ((List Condition)⊕(List Condition)))(x3:Int×(List Condition)):Option ((List Condition)⊕(List Condition)):=
 bif (decide (x3.1<(len a_1))) then ((aI a_1 x3.1).bind fun e4=>(bE e4).bind fun r5=>(aI x3.2 x3.1).bind fun e6=>self ((ai (x3.1+1)),(dw x3.2 x3.1 r5))) else (some (.inr x3.2))
def rE (bE:Condition→Option Condition)(a_1:List Condition): (Int×(List Condition))→Option ((List Condition)⊕(List Condition)):=aN (lO bE a_1)
theorem Aj (bE:Condition→Option Condition)(a_1:List Condition): ∀a,Fin1 fun f=>lO bE a_1 f a:=by
 unfold lO
 repeat first|intro _|exact aX|exact bw|apply bB|apply bf|apply bg|apply bo|apply bC
theorem RD (bE:Condition→Option Condition)(a_1:List Condition)(x:Int×(List Condition)):rE bE a_1 x=lO bE a_1 (rE bE a_1) x:=bH (Aj bE a_1) x
def xo (bE:Condition→Option Condition)(a_1:List Condition):Option (List Condition):=
 (tf 56 (Condition.mk 0 [] 0 []) (len a_1)).bind fun m2=>be (ρ:=(List Condition)) (rE bE a_1 (0,m2)) fun u7:(List Condition)=>some u7
def ue (bE:Condition→Option Condition)(a_1:Condition):Option Condition:=
 (xo bE a_1.Parts).bind fun r2=>some (Condition.mk a_1.Op a_1.Name a_1.Day r2)
def qo (bE:Condition→Option Condition)(x:Condition):Option Condition:=ue bE x
def CF (a_1:Condition):Option Condition:=aN qo a_1
theorem YP:∀x,Fin1 fun bE=>qo bE x:=by
 unfold qo ue
 repeat first|intro _|exact aX|exact bw|exact kh|exact mG|exact iY|exact kH|exact jz|exact jA|apply bB|apply bf|apply bg|apply bo|apply bC|apply rc|unfold xo|unfold rE|unfold lO
theorem ab8 (a_1:Condition):CF a_1=ue (aN qo) a_1:=bH YP a_1
def xl (a_1:Clause):Option Clause:=
 (CF a_1.When).bind fun r2=>some (Clause.mk a_1.Id a_1.Kind a_1.Party a_1.Action a_1.Other a_1.Amount r2 a_1.Within a_1.Repair)
def nL (a_1:List Clause)(self:(Int×(List Clause))→Option ((List Clause)⊕(List Clause)))(x3:Int×(List Clause)):Option ((List Clause)⊕(List Clause)):=
 bif (decide (x3.1<(len a_1))) then ((aI a_1 x3.1).bind fun e4=>(xl e4).bind fun r5=>(aI x3.2 x3.1).bind fun e6=>self ((ai (x3.1+1)),(dw x3.2 x3.1 r5))) else (some (.inr x3.2))
def uc (a_1:List Clause): (Int×(List Clause))→Option ((List Clause)⊕(List Clause)):=aN (nL a_1)
theorem Ai (a_1:List Clause): ∀a,Fin1 fun f=>nL a_1 f a:=by
 unfold nL
 repeat first|intro _|exact aX|exact bw|apply bB|apply bf|apply bg|apply bo|apply bC
theorem RC (a_1:List Clause)(x:Int×(List Clause)):uc a_1 x=nL a_1 (uc a_1) x:=bH (Ai a_1) x
def CD (a_1:List Clause):Option (List Clause):=
 (tf 144 (Clause.mk [] 0 0 [] 0 0 (Condition.mk 0 [] 0 []) 0 []) (len a_1)).bind fun m2=>be (ρ:=(List Clause)) (uc a_1 (0,m2)) fun u7:(List Clause)=>some u7
def vB (a_1:Contract):Option Contract:=
 (xt a_1.Parties).bind fun r2=>(CD a_1.Clauses).bind fun r3=>some (Contract.mk r2 r3)
def xq (a_1:Duty):Option Duty:=
 some a_1
def nM (a_1:List Duty)(self:(Int×(List Duty))→Option ((List Duty)⊕(List Duty)))(x3:Int×(List Duty)):Option ((List Duty)⊕(List Duty)):=
 bif (decide (x3.1<(len a_1))) then ((aI a_1 x3.1).bind fun e4=>(xq e4).bind fun r5=>(aI x3.2 x3.1).bind fun e6=>self ((ai (x3.1+1)),(dw x3.2 x3.1 r5))) else (some (.inr x3.2))
def ug (a_1:List Duty): (Int×(List Duty))→Option ((List Duty)⊕(List Duty)):=aN (nM a_1)
theorem Ak (a_1:List Duty): ∀a,Fin1 fun f=>nM a_1 f a:=by
 unfold nM
 repeat first|intro _|exact aX|exact bw|apply bB|apply bf|apply bg|apply bo|apply bC
theorem RE (a_1:List Duty)(x:Int×(List Duty)):ug a_1 x=nM a_1 (ug a_1) x:=bH (Ak a_1) x
def CK (a_1:List Duty):Option (List Duty):=
 (tf 32 (Duty.mk 0 0 0 0) (len a_1)).bind fun m2=>be (ρ:=(List Duty)) (ug a_1 (0,m2)) fun u7:(List Duty)=>some u7
def nN (a_1:List Int)(self:(Int×(List Int))→Option ((List Int)⊕(List Int)))(x3:Int×(List Int)):Option ((List Int)⊕(List Int)):=
 bif (decide (x3.1<(len a_1))) then ((aI a_1 x3.1).bind fun e4=>(aI x3.2 x3.1).bind fun e5=>self ((ai (x3.1+1)),(dw x3.2 x3.1 e4))) else (some (.inr x3.2))
def uh (a_1:List Int): (Int×(List Int))→Option ((List Int)⊕(List Int)):=aN (nN a_1)
theorem Al (a_1:List Int): ∀a,Fin1 fun f=>nN a_1 f a:=by
 unfold nN
 repeat first|intro _|exact aX|exact bw|apply bB|apply bf|apply bg|apply bo|apply bC
theorem RF (a_1:List Int)(x:Int×(List Int)):uh a_1 x=nN a_1 (uh a_1) x:=bH (Al a_1) x
def CM (a_1:List Int):Option (List Int):=
 (tf 8 0 (len a_1)).bind fun m2=>be (ρ:=(List Int)) (uh a_1 (0,m2)) fun u6:(List Int)=>some u6
def vC (a_1:State):Option State:=
 (xt a_1.Facts).bind fun r2=>(CK a_1.Duties).bind fun r3=>(CM a_1.Balances).bind fun r4=>some (State.mk a_1.Day r2 r3 r4 a_1.Over)
def ey (x_1:Int)(a_2:Int)(b_3:Int):Option Bool:=
 co (bif (decide (x_1≥a_2)) then (decide (x_1≤b_3)) else false) fun u4:Bool=>some u4
def xV (b_1:Int):Option Bool:=
 co (bif (decide (b_1≥97)) then (co (bif (decide (b_1≤122)) then true else (co (bif (decide (b_1≥48)) then (decide (b_1≤57)) else false) fun u4:Bool=>u4)) fun u3:Bool=>u3) else (co (bif (decide (b_1≥48)) then (decide (b_1≤57)) else false) fun u5:Bool=>u5)) fun u2:Bool=>some u2
def oa (s_1:ac)(self:Int→Option (Bool⊕Unit))(x4:Int):Option (Bool⊕Unit):=
 bif (decide (x4<(len s_1))) then ((aI s_1 x4).bind fun c5=>(xV (c5.toNat:Int)).bind fun r6=>bif (!r6) then (some (.inl false)) else (self (ai (x4+1)))) else (some (.inr ()))
def uH (s_1:ac): Int→Option (Bool⊕Unit):=aN (oa s_1)
theorem AV (s_1:ac): ∀a,Fin1 fun f=>oa s_1 f a:=by
 unfold oa
 repeat first|intro _|exact aX|exact bw|apply bB|apply bf|apply bg|apply bo|apply bC
theorem RT (s_1:ac)(x:Int):uH s_1 x=oa s_1 (uH s_1) x:=bH (AV s_1) x
def sb (s_1:ac):Option Bool:=
 (ey (len s_1) 1 8).bind fun r2=>be (ρ:=Bool) (bif (!r2) then (some (.inr true)) else ((aI s_1 0).bind fun c16=>cf (ρ:=Bool) (bif (decide ((c16.toNat:Int)<97)) then (some (.inr true)) else ((aI s_1 0).bind fun c18=>some (.inr (decide ((c18.toNat:Int)>122))))) fun u17:Bool=>some (.inr u17))) fun u3:Bool=>bif u3 then (some false) else (be (ρ:=Bool) (uH s_1 0) fun u7:Unit=>co (bif (s_1==([116,114,117,101]:ac)) then (s_1==([116,114,117,101]:ac)) else (co (bif (s_1==([102,114,111,109]:ac)) then (s_1==([102,114,111,109]:ac)) else (co (bif (s_1==([110,111,116]:ac)) then (s_1==([110,111,116]:ac)) else (co (bif (s_1==([97,110,100]:ac)) then (s_1==([97,110,100]:ac)) else (co (bif (s_1==([111,114]:ac)) then (s_1==([111,114]:ac)) else (co (bif (s_1==([98,111,116,104]:ac)) then (s_1==([98,111,116,104]:ac)) else (co (bif (s_1==([101,105,116,104,101,114]:ac)) then (s_1==([101,105,116,104,101,114]:ac)) else (co (bif (s_1==([105,116]:ac)) then (s_1==([105,116]:ac)) else (s_1==([105,110]:ac))) fun u15:Bool=>u15)) fun u14:Bool=>u14)) fun u13:Bool=>u13)) fun u12:Bool=>u12)) fun u11:Bool=>u11)) fun u10:Bool=>u10)) fun u9:Bool=>u9)) fun u8:Bool=>bif u8 then (some false) else (some true))
def nX (an:List ac)(fa:ac)(self:Int→Option (Bool⊕Unit))(x3:Int):Option (Bool⊕Unit):=
 bif (decide (x3<(len an))) then ((aI an x3).bind fun e4=>bif (e4==fa) then (some (.inl true)) else (self (ai (x3+1)))) else (some (.inr ()))
def uG (an:List ac)(fa:ac): Int→Option (Bool⊕Unit):=aN (nX an fa)
theorem AU (an:List ac)(fa:ac): ∀a,Fin1 fun f=>nX an fa f a:=by
 unfold nX
 repeat first|intro _|exact aX|exact bw|apply bB|apply bf|apply bg|apply bo|apply bC
theorem RS (an:List ac)(fa:ac)(x:Int):uG an fa x=nX an fa (uG an fa) x:=bH (AU an fa) x
def vP (an:List ac)(fa:ac):Option Bool:=
 be (ρ:=Bool) (uG an fa 0) fun u5:Unit=>some false
def l7 (c_1:Contract)(self:Int→Option (Bool⊕Unit))(x2:Int):Option (Bool⊕Unit):=
 bif (decide (x2<(len c_1.Parties))) then ((aI c_1.Parties x2).bind fun e3=>(sb e3).bind fun r4=>cf (ρ:=Bool) (bif (!r4) then (some (.inr true)) else ((jk c_1.Parties 0 x2).bind fun s6=>(aI c_1.Parties x2).bind fun e7=>(vP s6 e7).bind fun r8=>some (.inr r8))) fun u5:Bool=>bif u5 then (some (.inl false)) else (self (ai (x2+1)))) else (some (.inr ()))
def uS (c_1:Contract): Int→Option (Bool⊕Unit):=aN (l7 c_1)
theorem A8 (c_1:Contract): ∀a,Fin1 fun f=>l7 c_1 f a:=by
 unfold l7
 repeat first|intro _|exact aX|exact bw|apply bB|apply bf|apply bg|apply bo|apply bC
theorem HG (c_1:Contract)(x:Int):uS c_1 x=l7 c_1 (uS c_1) x:=bH (A8 c_1) x
def ye (c_1:Contract):Option Bool:=
 be (ρ:=Bool) (uS c_1 0) fun u9:Unit=>(ey (len c_1.Parties) 2 4).bind fun r10=>some r10
def od (c_1:Contract)(fq:ac)(self:Int→Option (Int⊕Unit))(x3:Int):Option (Int⊕Unit):=
 bif (decide (x3<(len c_1.Clauses))) then ((aI c_1.Clauses x3).bind fun e4=>bif (e4.Id==fq) then (some (.inl x3)) else (self (ai (x3+1)))) else (some (.inr ()))
def uQ (c_1:Contract)(fq:ac): Int→Option (Int⊕Unit):=aN (od c_1 fq)
theorem A5 (c_1:Contract)(fq:ac): ∀a,Fin1 fun f=>od c_1 fq f a:=by
 unfold od
 repeat first|intro _|exact aX|exact bw|apply bB|apply bf|apply bg|apply bo|apply bC
theorem RV (c_1:Contract)(fq:ac)(x:Int):uQ c_1 fq x=od c_1 fq (uQ c_1 fq) x:=bH (A5 c_1 fq) x
def vS (c_1:Contract)(fq:ac):Option Int:=
 be (ρ:=Int) (uQ c_1 fq 0) fun u5:Unit=>some (-1)
def rY (ig:Int):Option Bool:=
 (ey ig 0 36524).bind fun r2=>some r2
def Dp (c_1:Condition):Option Bool:=
 bif (c_1.Op==1) then (co (bif ((len c_1.Parts)==0) then (co (bif (c_1.Name==([]:ac)) then (c_1.Day==0) else false) fun u3:Bool=>u3) else false) fun u2:Bool=>some u2) else (bif (c_1.Op==2) then (be (ρ:=Bool) (bif ((len c_1.Parts)==0) then ((sb c_1.Name).bind fun r5=>co (bif r5 then (c_1.Day==0) else false) fun u6:Bool=>some (.inr u6)) else (some (.inr false))) fun u4:Bool=>some u4) else (bif (c_1.Op==3) then (be (ρ:=Bool) (bif ((len c_1.Parts)==0) then (cf (ρ:=Bool) (bif (c_1.Name==([]:ac)) then ((rY c_1.Day).bind fun r9=>some (.inr r9)) else (some (.inr false))) fun u8:Bool=>some (.inr u8)) else (some (.inr false))) fun u7:Bool=>some u7) else (bif (c_1.Op==4) then (co (bif ((len c_1.Parts)==1) then (co (bif (c_1.Name==([]:ac)) then (c_1.Day==0) else false) fun u11:Bool=>u11) else false) fun u10:Bool=>some u10) else (co (bif (c_1.Op==5) then (c_1.Op==5) else (c_1.Op==6)) fun u12:Bool=>bif u12 then (co (bif ((len c_1.Parts)==2) then (co (bif (c_1.Name==([]:ac)) then (c_1.Day==0) else false) fun u14:Bool=>u14) else false) fun u13:Bool=>some u13) else (some false)))))
def lX (cC:Condition→Option Bool)(c_1:Condition)(self:Int→Option (Bool⊕Unit))(x3:Int):Option (Bool⊕Unit):=
 bif (decide (x3<(len c_1.Parts))) then ((aI c_1.Parts x3).bind fun e4=>(cC e4).bind fun r5=>bif (!r5) then (some (.inl false)) else (self (ai (x3+1)))) else (some (.inr ()))
def rL (cC:Condition→Option Bool)(c_1:Condition): Int→Option (Bool⊕Unit):=aN (lX cC c_1)
theorem AR (cC:Condition→Option Bool)(c_1:Condition): ∀a,Fin1 fun f=>lX cC c_1 f a:=by
 unfold lX
 repeat first|intro _|exact aX|exact bw|apply bB|apply bf|apply bg|apply bo|apply bC
theorem RR (cC:Condition→Option Bool)(c_1:Condition)(x:Int):rL cC c_1 x=lX cC c_1 (rL cC c_1) x:=bH (AR cC c_1) x
def uF (cC:Condition→Option Bool)(c_1:Condition):Option Bool:=
 (Dp c_1).bind fun r2=>bif (!r2) then (some false) else (be (ρ:=Bool) (rL cC c_1 0) fun u6:Unit=>some true)
def sa (cC:Condition→Option Bool)(x:Condition):Option Bool:=uF cC x
def JE (c_1:Condition):Option Bool:=aN sa c_1
theorem Zy:∀x,Fin1 fun cC=>sa cC x:=by
 unfold sa uF
 repeat first|intro _|exact aX|exact bw|exact kh|exact mG|exact iY|exact kH|exact jz|exact jA|apply bB|apply bf|apply bg|apply bo|apply bC|apply rc|unfold rL|unfold lX
theorem ach (c_1:Condition):JE c_1=uF (aN sa) c_1:=bH Zy c_1
def kz (cE:Condition→Option Int)(c_1:Condition)(self:(Int×Int)→Option (Int⊕Int))(x2:Int×Int):Option (Int⊕Int):=
 bif (decide (x2.2<(len c_1.Parts))) then ((aI c_1.Parts x2.2).bind fun e3=>(cE e3).bind fun r4=>self ((ai (x2.1+r4)),(ai (x2.2+1)))) else (some (.inr x2.1))
def mB (cE:Condition→Option Int)(c_1:Condition): (Int×Int)→Option (Int⊕Int):=aN (kz cE c_1)
theorem AY (cE:Condition→Option Int)(c_1:Condition): ∀a,Fin1 fun f=>kz cE c_1 f a:=by
 unfold kz
 repeat first|intro _|exact aX|exact bw|apply bB|apply bf|apply bg|apply bo|apply bC
theorem Hp (cE:Condition→Option Int)(c_1:Condition)(x:Int×Int):mB cE c_1 x=kz cE c_1 (mB cE c_1) x:=bH (AY cE c_1) x
def uM (cE:Condition→Option Int)(c_1:Condition):Option Int:=
 be (ρ:=Int) (mB cE c_1 (1,0)) fun u5:Int=>some u5
def l4 (cE:Condition→Option Int)(x:Condition):Option Int:=uM cE x
def Nv (c_1:Condition):Option Int:=aN l4 c_1
theorem ZH:∀x,Fin1 fun cE=>l4 cE x:=by
 unfold l4 uM
 repeat first|intro _|exact aX|exact bw|exact kh|exact mG|exact iY|exact kH|exact jz|exact jA|apply bB|apply bf|apply bg|apply bo|apply bC|apply rc|unfold mB|unfold kz
theorem acj (c_1:Condition):Nv c_1=uM (aN l4) c_1:=bH ZH c_1
def Ds (c_1:Condition):Option Bool:=
 (JE c_1).bind fun r2=>be (ρ:=Bool) (bif r2 then ((Nv c_1).bind fun r4=>some (.inr (decide (r4≤15)))) else (some (.inr false))) fun u3:Bool=>some u3
def Dx (c_1:Contract)(i_2:Int):Option Bool:=
 (aI c_1.Clauses i_2).bind fun e3=>(sb e3.Id).bind fun r4=>be (ρ:=Bool) (bif (!r4) then (some (.inr true)) else ((sb e3.Action).bind fun r17=>cf (ρ:=Bool) (bif (!r17) then (some (.inr true)) else ((ey e3.Kind 1 4).bind fun r19=>cf (ρ:=Bool) (bif (!r19) then (some (.inr true)) else ((ey e3.Party 0 (ai ((len c_1.Parties) - 1))).bind fun r21=>cf (ρ:=Bool) (bif (!r21) then (some (.inr true)) else ((ey e3.Other 0 (ai ((len c_1.Parties) - 1))).bind fun r23=>cf (ρ:=Bool) (bif (!r23) then (some (.inr true)) else (cf (ρ:=Bool) (bif (e3.Party==e3.Other) then (some (.inr true)) else ((Ds e3.When).bind fun r26=>some (.inr (!r26)))) fun u25:Bool=>some (.inr u25))) fun u24:Bool=>some (.inr u24))) fun u22:Bool=>some (.inr u22))) fun u20:Bool=>some (.inr u20))) fun u18:Bool=>some (.inr u18))) fun u5:Bool=>bif u5 then (some false) else ((ey e3.Amount 0 1000000).bind fun r6=>be (ρ:=Bool) (bif (!r6) then (some (.inr true)) else ((ey e3.Within 0 400).bind fun r13=>co (bif (!r13) then true else (co (bif (e3.Kind != 1) then (co (bif (e3.Amount != 0) then true else (e3.Within != 0)) fun u16:Bool=>u16) else false) fun u15:Bool=>u15)) fun u14:Bool=>some (.inr u14))) fun u7:Bool=>bif u7 then (some false) else (bif (e3.Repair==([]:ac)) then (some true) else ((vS c_1 e3.Repair).bind fun r8=>be (ρ:=Bool) (bif (decide (r8≥0)) then (cf (ρ:=Bool) (bif (r8 != i_2) then ((aI c_1.Clauses r8).bind fun e11=>co (bif (e11.Kind==1) then (e3.Kind != 3) else false) fun u12:Bool=>some (.inr u12)) else (some (.inr false))) fun u10:Bool=>some (.inr u10)) else (some (.inr false))) fun u9:Bool=>some u9)))
def lZ (l_8:List ac)(s_9:ac)(self:Int→Option ((List ac)⊕(ac×Int×(List ac))))(x3:Int):Option ((List ac)⊕(ac×Int×(List ac))):=
 cf (ρ:=(List ac)) (bif (decide (x3<(len l_8))) then ((aI l_8 x3).bind fun e5=>some (.inr (Op.bytesLess e5 s_9))) else (some (.inr false))) fun u4:Bool=>bif u4 then (self (ai (x3+1))) else (some (.inr (s_9,x3,l_8)))
def uK (l_8:List ac)(s_9:ac): Int→Option ((List ac)⊕(ac×Int×(List ac))):=aN (lZ l_8 s_9)
theorem AX (l_8:List ac)(s_9:ac): ∀a,Fin1 fun f=>lZ l_8 s_9 f a:=by
 unfold lZ
 repeat first|intro _|exact aX|exact bw|apply bB|apply bf|apply bg|apply bo|apply bC
theorem Hm (l_8:List ac)(s_9:ac)(x:Int):uK l_8 s_9 x=lZ l_8 s_9 (uK l_8 s_9) x:=bH (AX l_8 s_9) x
def xT (l_8:List ac)(s_9:ac):Option (List ac):=
 be (ρ:=(List ac)) (uK l_8 s_9 0) fun u6:ac×Int×(List ac)=>be (ρ:=(List ac)) (bif (decide (u6.2.1<(len u6.2.2))) then ((aI u6.2.2 u6.2.1).bind fun e15=>some (.inr (e15==u6.1))) else (some (.inr false))) fun u7:Bool=>bif u7 then (some u6.2.2) else ((jS u6.2.2.length 0 u6.2.1).bind fun s8=>(jV u6.2.2 (0+Int.toNat (0)) (Int.toNat u6.2.1 - Int.toNat (0))).bind fun p9=>(iC 16 ([]:List ac) p9).bind fun a10=>(iC 16 a10 [u6.1]).bind fun a11=>(jS u6.2.2.length u6.2.1 (len u6.2.2)).bind fun s12=>(jV u6.2.2 (0+Int.toNat u6.2.1) (Int.toNat (len u6.2.2) - Int.toNat u6.2.1)).bind fun p13=>(iC 16 a11 p13).bind fun a14=>some a14)
def ky (cD:((List ac)×Condition)→Option (List ac))(l_4:List ac)(c_5:Condition)(self:(Int×(List ac))→Option ((List ac)⊕(List ac)))(x4:Int×(List ac)):Option ((List ac)⊕(List ac)):=
 bif (decide (x4.1<(len c_5.Parts))) then ((aI c_5.Parts x4.1).bind fun e5=>(cD (x4.2,e5)).bind fun r6=>self ((ai (x4.1+1)),r6)) else (some (.inr x4.2))
def mA (cD:((List ac)×Condition)→Option (List ac))(l_4:List ac)(c_5:Condition): (Int×(List ac))→Option ((List ac)⊕(List ac)):=aN (ky cD l_4 c_5)
theorem AW (cD:((List ac)×Condition)→Option (List ac))(l_4:List ac)(c_5:Condition): ∀a,Fin1 fun f=>ky cD l_4 c_5 f a:=by
 unfold ky
 repeat first|intro _|exact aX|exact bw|apply bB|apply bf|apply bg|apply bo|apply bC
theorem Hj (cD:((List ac)×Condition)→Option (List ac))(l_4:List ac)(c_5:Condition)(x:Int×(List ac)):mA cD l_4 c_5 x=ky cD l_4 c_5 (mA cD l_4 c_5) x:=bH (AW cD l_4 c_5) x
def uI (cD:((List ac)×Condition)→Option (List ac))(l_4:List ac)(c_5:Condition):Option (List ac):=
 bif (c_5.Op==2) then ((xT l_4 c_5.Name).bind fun r3=>some r3) else (be (ρ:=(List ac)) (mA cD l_4 c_5 (0,l_4)) fun u7:(List ac)=>some u7)
def lY (cD:((List ac)×Condition)→Option (List ac))(x:(List ac)×Condition):Option (List ac):=uI cD x.1 x.2
def Ns (l_4:List ac)(c_5:Condition):Option (List ac):=aN lY (l_4,c_5)
theorem ZD:∀x,Fin1 fun cD=>lY cD x:=by
 unfold lY uI
 repeat first|intro _|exact aX|exact bw|exact kh|exact mG|exact iY|exact kH|exact jz|exact jA|apply bB|apply bf|apply bg|apply bo|apply bC|apply rc|unfold mA|unfold ky
theorem aci (l_4:List ac)(c_5:Condition):Ns l_4 c_5=uI (aN lY) l_4 c_5:=bH ZD (l_4,c_5)
def l6 (c_1:Contract)(self:(Int×(List ac))→Option ((List ac)⊕(List ac)))(x2:Int×(List ac)):Option ((List ac)⊕(List ac)):=
 bif (decide (x2.1<(len c_1.Clauses))) then ((aI c_1.Clauses x2.1).bind fun e3=>(xT x2.2 e3.Action).bind fun r4=>(aI c_1.Clauses x2.1).bind fun e5=>(Ns r4 e5.When).bind fun r6=>self ((ai (x2.1+1)),r6)) else (some (.inr x2.2))
def oe (c_1:Contract): (Int×(List ac))→Option ((List ac)⊕(List ac)):=aN (l6 c_1)
theorem A7 (c_1:Contract): ∀a,Fin1 fun f=>l6 c_1 f a:=by
 unfold l6
 repeat first|intro _|exact aX|exact bw|apply bB|apply bf|apply bg|apply bo|apply bC
theorem HC (c_1:Contract)(x:Int×(List ac)):oe c_1 x=l6 c_1 (oe c_1) x:=bH (A7 c_1) x
def pB (c_1:Contract):Option (List ac):=
 be (ρ:=(List ac)) (oe c_1 (0,[])) fun u7:(List ac)=>some u7
def l5 (c_1:Contract)(self:Int→Option (Bool⊕Unit))(x4:Int):Option (Bool⊕Unit):=
 bif (decide (x4<(len c_1.Clauses))) then ((aI c_1.Clauses x4).bind fun e5=>(vS c_1 e5.Id).bind fun r6=>cf (ρ:=Bool) (bif (r6 != x4) then (some (.inr true)) else ((Dx c_1 x4).bind fun r8=>some (.inr (!r8)))) fun u7:Bool=>bif u7 then (some (.inl false)) else (self (ai (x4+1)))) else (some (.inr ()))
def mC (c_1:Contract): Int→Option (Bool⊕Unit):=aN (l5 c_1)
theorem A6 (c_1:Contract): ∀a,Fin1 fun f=>l5 c_1 f a:=by
 unfold l5
 repeat first|intro _|exact aX|exact bw|apply bB|apply bf|apply bg|apply bo|apply bC
theorem Hz (c_1:Contract)(x:Int):mC c_1 x=l5 c_1 (mC c_1) x:=bH (A6 c_1) x
def DB (c_1:Contract):Option Bool:=
 (ey (len c_1.Clauses) 1 12).bind fun r2=>be (ρ:=Bool) (bif (!r2) then (some (.inr true)) else ((ye c_1).bind fun r11=>some (.inr (!r11)))) fun u3:Bool=>bif u3 then (some false) else (be (ρ:=Bool) (mC c_1 0) fun u9:Unit=>(pB c_1).bind fun r10=>some (decide ((len r10)≤16)))
def kx (an:List ac)(self:Int→Option (Bool⊕Unit))(x2:Int):Option (Bool⊕Unit):=
 co (bif (decide (x2<(len an))) then (decide (x2≤16)) else false) fun u3:Bool=>bif u3 then ((aI an x2).bind fun e4=>(sb e4).bind fun r5=>cf (ρ:=Bool) (bif (!r5) then (some (.inr true)) else (cf (ρ:=Bool) (bif (decide (x2>0)) then ((aI an (ai (x2 - 1))).bind fun e8=>(aI an x2).bind fun e9=>some (.inr (!(Op.bytesLess e8 e9)))) else (some (.inr false))) fun u7:Bool=>some (.inr u7))) fun u6:Bool=>bif u6 then (some (.inl false)) else (self (ai (x2+1)))) else (some (.inr ()))
def jl (an:List ac): Int→Option (Bool⊕Unit):=aN (kx an)
theorem AQ (an:List ac): ∀a,Fin1 fun f=>kx an f a:=by
 unfold kx
 repeat first|intro _|exact aX|exact bw|apply bB|apply bf|apply bg|apply bo|apply bC
theorem vO (an:List ac)(x:Int):jl an x=kx an (jl an) x:=bH (AQ an) x
def Dm (an:List ac):Option Bool:=
 be (ρ:=Bool) (jl an 0) fun u10:Unit=>some (decide ((len an)≤16))
def oc (c_1:Contract)(i_2:Int)(self:Int→Option (Bool⊕Unit))(x3:Int):Option (Bool⊕Unit):=
 bif (decide (x3<(len c_1.Clauses))) then ((aI c_1.Clauses x3).bind fun e4=>(aI c_1.Clauses i_2).bind fun e5=>bif (e4.Repair==e5.Id) then (some (.inl true)) else (self (ai (x3+1)))) else (some (.inr ()))
def uO (c_1:Contract)(i_2:Int): Int→Option (Bool⊕Unit):=aN (oc c_1 i_2)
theorem AZ (c_1:Contract)(i_2:Int): ∀a,Fin1 fun f=>oc c_1 i_2 f a:=by
 unfold oc
 repeat first|intro _|exact aX|exact bw|apply bB|apply bf|apply bg|apply bo|apply bC
theorem RU (c_1:Contract)(i_2:Int)(x:Int):uO c_1 i_2 x=oc c_1 i_2 (uO c_1 i_2) x:=bH (AZ c_1 i_2) x
def Dz (c_1:Contract)(i_2:Int):Option Bool:=
 be (ρ:=Bool) (uO c_1 i_2 0) fun u6:Unit=>some false
def l8 (s_1:State)(i_2:Int)(self:(Int×Int)→Option (Int⊕Int))(x3:Int×Int):Option (Int⊕Int):=
 bif (decide (x3.2<(len s_1.Duties))) then ((aI s_1.Duties x3.2).bind fun e4=>co (bif (e4.Clause==i_2) then (ai (x3.1+1)) else x3.1) fun u5:Int=>self (u5,(ai (x3.2+1)))) else (some (.inr x3.1))
def mD (s_1:State)(i_2:Int): (Int×Int)→Option (Int⊕Int):=aN (l8 s_1 i_2)
theorem A9 (s_1:State)(i_2:Int): ∀a,Fin1 fun f=>l8 s_1 i_2 f a:=by
 unfold l8
 repeat first|intro _|exact aX|exact bw|apply bB|apply bf|apply bg|apply bo|apply bC
theorem HK (s_1:State)(i_2:Int)(x:Int×Int):mD s_1 i_2 x=l8 s_1 i_2 (mD s_1 i_2) x:=bH (A9 s_1 i_2) x
def DE (s_1:State)(i_2:Int):Option Int:=
 be (ρ:=Int) (mD s_1 i_2 (0,0)) fun u6:Int=>some u6
def DG (c_1:Contract)(s_2:State)(k_3:Int):Option Bool:=
 (aI s_2.Duties k_3).bind fun e4=>(ey e4.Clause 0 (ai ((len c_1.Clauses) - 1))).bind fun r5=>be (ρ:=Bool) (bif (!r5) then (some (.inr true)) else ((aI c_1.Clauses e4.Clause).bind fun e35=>cf (ρ:=Bool) (bif (e35.Kind != 1) then (some (.inr true)) else ((ey e4.Since 0 s_2.Day).bind fun r37=>cf (ρ:=Bool) (bif (!r37) then (some (.inr true)) else ((aI c_1.Clauses e4.Clause).bind fun e39=>cf (ρ:=Bool) (bif (e4.Due != (ai (e4.Since+e39.Within))) then (some (.inr true)) else ((rY e4.Due).bind fun r41=>cf (ρ:=Bool) (bif (!r41) then (some (.inr true)) else ((ey e4.Status 1 4).bind fun r43=>some (.inr (!r43)))) fun u42:Bool=>some (.inr u42))) fun u40:Bool=>some (.inr u40))) fun u38:Bool=>some (.inr u38))) fun u36:Bool=>some (.inr u36))) fun u6:Bool=>bif u6 then (some false) else (be (ρ:=Bool) (bif (decide (k_3>0)) then ((aI s_2.Duties (ai (k_3 - 1))).bind fun e11=>co (bif (decide (e11.Since>e4.Since)) then true else (co (bif (e4.Status==1) then (co (bif (decide (e4.Due<s_2.Day)) then true else (co (bif s_2.Over then true else (co (bif (e4.Status==3) then (co (bif (decide (e4.Due≥s_2.Day)) then true else (co (bif (e4.Status==4) then (!s_2.Over) else false) fun u18:Bool=>u18)) fun u17:Bool=>u17) else (co (bif (e4.Status==4) then (!s_2.Over) else false) fun u19:Bool=>u19)) fun u16:Bool=>u16)) fun u15:Bool=>u15)) fun u14:Bool=>u14) else (co (bif (e4.Status==3) then (co (bif (decide (e4.Due≥s_2.Day)) then true else (co (bif (e4.Status==4) then (!s_2.Over) else false) fun u22:Bool=>u22)) fun u21:Bool=>u21) else (co (bif (e4.Status==4) then (!s_2.Over) else false) fun u23:Bool=>u23)) fun u20:Bool=>u20)) fun u13:Bool=>u13)) fun u12:Bool=>some (.inr u12)) else (co (bif (e4.Status==1) then (co (bif (decide (e4.Due<s_2.Day)) then true else (co (bif s_2.Over then true else (co (bif (e4.Status==3) then (co (bif (decide (e4.Due≥s_2.Day)) then true else (co (bif (e4.Status==4) then (!s_2.Over) else false) fun u29:Bool=>u29)) fun u28:Bool=>u28) else (co (bif (e4.Status==4) then (!s_2.Over) else false) fun u30:Bool=>u30)) fun u27:Bool=>u27)) fun u26:Bool=>u26)) fun u25:Bool=>u25) else (co (bif (e4.Status==3) then (co (bif (decide (e4.Due≥s_2.Day)) then true else (co (bif (e4.Status==4) then (!s_2.Over) else false) fun u33:Bool=>u33)) fun u32:Bool=>u32) else (co (bif (e4.Status==4) then (!s_2.Over) else false) fun u34:Bool=>u34)) fun u31:Bool=>u31)) fun u24:Bool=>some (.inr u24))) fun u7:Bool=>bif u7 then (some false) else ((Dz c_1 e4.Clause).bind fun r8=>be (ρ:=Bool) (bif r8 then (some (.inr true)) else ((DE s_2 e4.Clause).bind fun r10=>some (.inr (r10==1)))) fun u9:Bool=>some u9))
def Di (x_1:Int):Option Bool:=
 (ey x_1 (-1000000000) 1000000000).bind fun r2=>some r2
def lW (an:List Int)(self:(Int×Int)→Option (Int⊕Int))(x2:Int×Int):Option (Int⊕Int):=
 bif (decide (x2.2<(len an))) then ((aI an x2.2).bind fun e3=>self ((ai (x2.1+e3)),(ai (x2.2+1)))) else (some (.inr x2.1))
def lj (an:List Int): (Int×Int)→Option (Int⊕Int):=aN (lW an)
theorem AP (an:List Int): ∀a,Fin1 fun f=>lW an f a:=by
 unfold lW
 repeat first|intro _|exact aX|exact bw|apply bB|apply bf|apply bg|apply bo|apply bC
theorem GZ (an:List Int)(x:Int×Int):lj an x=lW an (lj an) x:=bH (AP an) x
def vM (an:List Int):Option Int:=
 be (ρ:=Int) (lj an (0,0)) fun u4:Int=>some u4
def oh (c_1:Contract)(s_2:State)(r5:(List ac))(self:Int→Option (Bool⊕Unit))(x6:Int):Option (Bool⊕Unit):=
 bif (decide (x6<(len s_2.Facts))) then ((aI s_2.Facts x6).bind fun e7=>(vP r5 e7).bind fun r8=>bif (!r8) then (some (.inl false)) else (self (ai (x6+1)))) else (some (.inr ()))
def uU (c_1:Contract)(s_2:State)(r5:(List ac)):Int→Option (Bool⊕Unit):=aN (oh c_1 s_2 r5)
theorem Ba (c_1:Contract)(s_2:State)(r5:(List ac)):∀a,Fin1 fun f=>oh c_1 s_2 r5 f a:=by
 unfold oh
 repeat first|intro _|exact aX|exact bw|apply bB|apply bf|apply bg|apply bo|apply bC
theorem RX (c_1:Contract)(s_2:State)(r5:(List ac))(x:Int):uU c_1 s_2 r5 x=oh c_1 s_2 r5 (uU c_1 s_2 r5) x:=bH (Ba c_1 s_2 r5) x
def l9 (c_1:Contract)(s_2:State)(self:Int→Option (Bool⊕Unit))(x10:Int):Option (Bool⊕Unit):=
 bif (decide (x10<(len s_2.Duties))) then ((DG c_1 s_2 x10).bind fun r11=>bif (!r11) then (some (.inl false)) else (self (ai (x10+1)))) else (some (.inr ()))
def ol (c_1:Contract)(s_2:State): Int→Option (Bool⊕Unit):=aN (l9 c_1 s_2)
theorem Bb (c_1:Contract)(s_2:State): ∀a,Fin1 fun f=>l9 c_1 s_2 f a:=by
 unfold l9
 repeat first|intro _|exact aX|exact bw|apply bB|apply bf|apply bg|apply bo|apply bC
theorem HP (c_1:Contract)(s_2:State)(x:Int):ol c_1 s_2 x=l9 c_1 s_2 (ol c_1 s_2) x:=bH (Bb c_1 s_2) x
def om (c_1:Contract)(s_2:State)(self:Int→Option (Bool⊕Unit))(x13:Int):Option (Bool⊕Unit):=
 bif (decide (x13<(len s_2.Balances))) then ((aI s_2.Balances x13).bind fun e14=>(Di e14).bind fun r15=>bif (!r15) then (some (.inl false)) else (self (ai (x13+1)))) else (some (.inr ()))
def uV (c_1:Contract)(s_2:State): Int→Option (Bool⊕Unit):=aN (om c_1 s_2)
theorem Bc (c_1:Contract)(s_2:State): ∀a,Fin1 fun f=>om c_1 s_2 f a:=by
 unfold om
 repeat first|intro _|exact aX|exact bw|apply bB|apply bf|apply bg|apply bo|apply bC
theorem RY (c_1:Contract)(s_2:State)(x:Int):uV c_1 s_2 x=om c_1 s_2 (uV c_1 s_2) x:=bH (Bc c_1 s_2) x
def sf (c_1:Contract)(s_2:State):Option Bool:=
 (DB c_1).bind fun r3=>be (ρ:=Bool) (bif (!r3) then (some (.inr true)) else ((rY s_2.Day).bind fun r18=>cf (ρ:=Bool) (bif (!r18) then (some (.inr true)) else ((Dm s_2.Facts).bind fun r20=>co (bif (!r20) then true else (co (bif (decide ((len s_2.Duties)>24)) then true else ((len s_2.Balances) != (len c_1.Parties))) fun u22:Bool=>u22)) fun u21:Bool=>some (.inr u21))) fun u19:Bool=>some (.inr u19))) fun u4:Bool=>bif u4 then (some false) else ((pB c_1).bind fun r5=>be (ρ:=Bool) (uU c_1 s_2 r5 0) fun u9:Unit=>be (ρ:=Bool) (ol c_1 s_2 0) fun u12:Unit=>be (ρ:=Bool) (uV c_1 s_2 0) fun u16:Unit=>(vM s_2.Balances).bind fun r17=>some (r17==0))
def De (c_1:Contract)(s_2:State)(bn:Int):Option Bool:=
 (sf c_1 s_2).bind fun r4=>be (ρ:=Bool) (bif r4 then ((ey bn 0 (ai ((len c_1.Parties) - 1))).bind fun r6=>some (.inr r6)) else (some (.inr false))) fun u5:Bool=>some u5
def lV (s_1:State)(dF:List Int)(k_3:Int)(self:Int→Option ((List Int)⊕Int))(x4:Int):Option ((List Int)⊕Int):=
 cf (ρ:=(List Int)) (bif (decide (x4>0)) then ((aI dF (ai (x4 - 1))).bind fun e6=>(aI s_1.Duties e6).bind fun e7=>(aI s_1.Duties k_3).bind fun e8=>some (.inr (decide (e7.Due>e8.Due)))) else (some (.inr false))) fun u5:Bool=>bif u5 then (self (ai (x4 - 1))) else (some (.inr x4))
def py (s_1:State)(dF:List Int)(k_3:Int): Int→Option ((List Int)⊕Int):=aN (lV s_1 dF k_3)
theorem AO (s_1:State)(dF:List Int)(k_3:Int): ∀a,Fin1 fun f=>lV s_1 dF k_3 f a:=by
 unfold lV
 repeat first|intro _|exact aX|exact bw|apply bB|apply bf|apply bg|apply bo|apply bC
theorem GQ (s_1:State)(dF:List Int)(k_3:Int)(x:Int):py s_1 dF k_3 x=lV s_1 dF k_3 (py s_1 dF k_3) x:=bH (AO s_1 dF k_3) x
def vJ (s_1:State)(dF:List Int)(k_3:Int):Option (List Int):=
 be (ρ:=(List Int)) (py s_1 dF k_3 (len dF)) fun u9:Int=>(jk dF 0 u9).bind fun s10=>(iC 8 ([]:List Int) s10).bind fun a11=>(iC 8 a11 [k_3]).bind fun a12=>(jk dF u9 (len dF)).bind fun s13=>(iC 8 a12 s13).bind fun a14=>some a14
def lU (c_1:Contract)(s_2:State)(dZ:Int)(fb:Int)(self:(Int×(List Int))→Option ((List Int)⊕(List Int)))(x5:Int×(List Int)):Option ((List Int)⊕(List Int)):=
 bif (decide (x5.1<(len s_2.Duties))) then ((aI s_2.Duties x5.1).bind fun e6=>(aI c_1.Clauses e6.Clause).bind fun e7=>(aI s_2.Duties x5.1).bind fun e8=>co (bif (e8.Status==1) then (co (bif (decide (dZ<0)) then (co (bif (decide (fb<0)) then true else (e7.Other==fb)) fun u13:Bool=>u13) else (co (bif (e7.Party==dZ) then (co (bif (decide (fb<0)) then true else (e7.Other==fb)) fun u15:Bool=>u15) else false) fun u14:Bool=>u14)) fun u12:Bool=>u12) else false) fun u9:Bool=>cf (ρ:=(List Int)) (bif u9 then ((vJ s_2 x5.2 x5.1).bind fun r11=>some (.inr r11)) else (some (.inr x5.2))) fun u10:(List Int)=>self ((ai (x5.1+1)),u10)) else (some (.inr x5.2))
def li (c_1:Contract)(s_2:State)(dZ:Int)(fb:Int): (Int×(List Int))→Option ((List Int)⊕(List Int)):=aN (lU c_1 s_2 dZ fb)
theorem AN (c_1:Contract)(s_2:State)(dZ:Int)(fb:Int): ∀a,Fin1 fun f=>lU c_1 s_2 dZ fb f a:=by
 unfold lU
 repeat first|intro _|exact aX|exact bw|apply bB|apply bf|apply bg|apply bo|apply bC
theorem GJ (c_1:Contract)(s_2:State)(dZ:Int)(fb:Int)(x:Int×(List Int)):li c_1 s_2 dZ fb x=lU c_1 s_2 dZ fb (li c_1 s_2 dZ fb) x:=bH (AN c_1 s_2 dZ fb) x
def xF (c_1:Contract)(s_2:State)(dZ:Int)(fb:Int):Option (List Int):=
 be (ρ:=(List Int)) (li c_1 s_2 dZ fb (0,[])) fun u16:(List Int)=>some u16
def uB (eq:Int→Option ac)(n_1:Int):Option ac:=
 bif (decide (n_1<0)) then ((eq (ai (0 - n_1))).bind fun r2=>(fX ([45]:ac) r2).bind fun s3=>some s3) else (bif (decide (n_1<10)) then ((jk ([48,49,50,51,52,53,54,55,56,57]:ac) n_1 (ai (n_1+1))).bind fun s4=>some s4) else ((eq (ai (n_1.tdiv 10))).bind fun r5=>(jk ([48,49,50,51,52,53,54,55,56,57]:ac) (n_1.tmod 10) (ai ((n_1.tmod 10)+1))).bind fun s6=>(fX r5 s6).bind fun s7=>some s7))
def rV (eq:Int→Option ac)(x:Int):Option ac:=uB eq x
def Dh (n_1:Int):Option ac:=aN rV n_1
theorem Zq:∀x,Fin1 fun eq=>rV eq x:=by
 unfold rV uB
 repeat first|intro _|exact aX|exact bw|apply bB|apply bf|apply bg|apply bo|apply bC
theorem acf (n_1:Int):Dh n_1=uB (aN rV) n_1:=bH Zq n_1
def lT (c_1:Contract)(s_2:State)(eE:List Int)(self:(Int×Int)→Option (Int⊕Int))(x4:Int×Int):Option (Int⊕Int):=
 bif (decide (x4.2<(len eE))) then ((aI eE x4.2).bind fun e5=>(aI s_2.Duties e5).bind fun e6=>(aI c_1.Clauses e6.Clause).bind fun e7=>self ((ai (x4.1+e7.Amount)),(ai (x4.2+1)))) else (some (.inr x4.1))
def lh (c_1:Contract)(s_2:State)(eE:List Int): (Int×Int)→Option (Int⊕Int):=aN (lT c_1 s_2 eE)
theorem AM (c_1:Contract)(s_2:State)(eE:List Int): ∀a,Fin1 fun f=>lT c_1 s_2 eE f a:=by
 unfold lT
 repeat first|intro _|exact aX|exact bw|apply bB|apply bf|apply bg|apply bo|apply bC
theorem GF (c_1:Contract)(s_2:State)(eE:List Int)(x:Int×Int):lh c_1 s_2 eE x=lT c_1 s_2 eE (lh c_1 s_2 eE) x:=bH (AM c_1 s_2 eE) x
def xE (c_1:Contract)(s_2:State)(eE:List Int):Option Int:=
 be (ρ:=Int) (lh c_1 s_2 eE (0,0)) fun u8:Int=>some u8
def vL (x_1:Int):Option ac:=
 co (bif (decide (x_1<0)) then ((ai (0 - x_1)),([45]:ac)) else (x_1,([]:ac))) fun u2:Int×ac=>(Dh (ai (u2.1.tdiv 100))).bind fun r3=>(fX u2.2 r3).bind fun s4=>(fX s4 ([46]:ac)).bind fun s5=>be (ρ:=ac) (bif (decide ((u2.1.tmod 100)<10)) then ((fX s5 ([48]:ac)).bind fun s9=>some (.inr s9)) else (some (.inr s5))) fun u6:ac=>(Dh (u2.1.tmod 100)).bind fun r7=>(fX u6 r7).bind fun s8=>some s8
def Da (c_1:Contract)(s_2:State)(bn:Int):Option (ac×Bool):=
 (De c_1 s_2 bn).bind fun r4=>bif (!r4) then (some (([]:ac),false)) else ((xF c_1 s_2 bn (-1)).bind fun r5=>(xF c_1 s_2 (-1) bn).bind fun r6=>(aI c_1.Parties bn).bind fun e7=>(fX e7 ([58,32,111,119,101,115,32]:ac)).bind fun s8=>(Dh (len r5)).bind fun r9=>(fX s8 r9).bind fun s10=>(fX s10 ([32,40]:ac)).bind fun s11=>(xE c_1 s_2 r5).bind fun r12=>(vL r12).bind fun r13=>(fX s11 r13).bind fun s14=>(fX s14 ([41,44,32,99,108,97,105,109,115,32]:ac)).bind fun s15=>(Dh (len r6)).bind fun r16=>(fX s15 r16).bind fun s17=>(fX s17 ([32,40]:ac)).bind fun s18=>(xE c_1 s_2 r6).bind fun r19=>(vL r19).bind fun r20=>(fX s18 r20).bind fun s21=>(fX s21 ([41,44,32,98,97,108,97,110,99,101,32]:ac)).bind fun s22=>(aI s_2.Balances bn).bind fun e23=>(vL e23).bind fun r24=>(fX s22 r24).bind fun s25=>some (s25,true))
def ji (n_1:Int)(o7:Int)(mf:Int):Option Bool:=
 co (bif (decide (n_1≥o7)) then (decide (n_1≤mf)) else false) fun u4:Bool=>some u4
def MJ (s_1:ac)(c_2:Int):Option Int:=
 (sH s_1 c_2).bind fun r3=>some r3
def MG (s_1:ac)(br:ac):Option Int:=
 co (bif ((len br)==0) then true else (br==s_1)) fun u3:Bool=>bif u3 then (some 0) else (bif ((len br)==1) then ((aI br 0).bind fun c4=>(MJ s_1 (c4.toNat:Int)).bind fun r5=>some r5) else (bif (decide ((len br)≥(len s_1))) then (some (-1)) else none))
def JH (s_1:ac)(br:ac):Option Int:=
 (MG s_1 br).bind fun r3=>some r3
def sR (s_1:ac)(br:ac)(self:(ac×Int)→Option (Int⊕Unit))(x5:ac×Int):Option (Int⊕Unit):=
 (JH x5.1 br).bind fun r6=>bif (r6==(-1)) then (some (.inl x5.2)) else ((jk x5.1 (ai (r6+(len br))) (len x5.1)).bind fun s7=>self (s7,(ai (x5.2+1))))
def QM (s_1:ac)(br:ac): (ac×Int)→Option (Int⊕Unit):=aN (sR s_1 br)
theorem Qa (s_1:ac)(br:ac): ∀a,Fin1 fun f=>sR s_1 br f a:=by
 unfold sR
 repeat first|intro _|exact aX|exact bw|apply bB|apply bf|apply bg|apply bo|apply bC
def NE (s_1:ac)(br:ac):Option Int:=
 bif ((len br)==0) then none else (bif ((len br)==1) then ((aI br 0).bind fun c3=>(zg s_1 (c3.toNat:Int)).bind fun r4=>some r4) else (be (ρ:=Int) (QM s_1 br (s_1,0)) fun u8:Unit=>none))
def sS (s_1:ac)(d4:ac)(dI:Int)(n_4:Int)(u5:Int)(self:(ac×Int×(List ac))→Option ((List ac)⊕(ac×Int×(List ac))))(x7:ac×Int×(List ac)):Option ((List ac)⊕(ac×Int×(List ac))):=
 bif (decide (x7.2.1<(ai ((if (ai ((len s_1)+1))<u5 then (ai ((len s_1)+1)) else u5) - 1)))) then ((JH x7.1 d4).bind fun r8=>bif (decide (r8<0)) then (some (.inr (x7.1,x7.2.1,x7.2.2))) else ((jk x7.1 0 (ai (r8+dI))).bind fun s9=>(aI x7.2.2 x7.2.1).bind fun e10=>(jk x7.1 (ai (r8+(len d4))) (len x7.1)).bind fun s11=>self (s11,(ai (x7.2.1+1)),(dw x7.2.2 x7.2.1 s9)))) else (some (.inr (x7.1,x7.2.1,x7.2.2)))
def zr (s_1:ac)(d4:ac)(dI:Int)(n_4:Int)(u5:Int):(ac×Int×(List ac))→Option ((List ac)⊕(ac×Int×(List ac))):=aN (sS s_1 d4 dI n_4 u5)
theorem Bd (s_1:ac)(d4:ac)(dI:Int)(n_4:Int)(u5:Int):∀a,Fin1 fun f=>sS s_1 d4 dI n_4 u5 f a:=by
 unfold sS
 repeat first|intro _|exact aX|exact bw|apply bB|apply bf|apply bg|apply bo|apply bC
def NG (s_1:ac)(d4:ac)(dI:Int)(n_4:Int):Option (List ac):=
 bif (n_4==0) then (some []) else (bif (d4==([]:ac)) then none else (be (ρ:=(List ac)) (bif (decide (n_4<0)) then ((NE s_1 d4).bind fun r16=>some (.inr (ai (r16+1)))) else (some (.inr n_4))) fun u5:Int=>(tf 16 [] (if (ai ((len s_1)+1))<u5 then (ai ((len s_1)+1)) else u5)).bind fun m6=>be (ρ:=(List ac)) (zr s_1 d4 dI n_4 u5 (s_1,0,m6)) fun u12:ac×Int×(List ac)=>(aI u12.2.2 u12.2.1).bind fun e13=>(jS (dw u12.2.2 u12.2.1 u12.1).length 0 (ai (u12.2.1+1))).bind fun s14=>(jV (dw u12.2.2 u12.2.1 u12.1) (0+Int.toNat (0)) (Int.toNat (ai (u12.2.1+1)) - Int.toNat (0))).bind fun p15=>some p15))
def DK (s_1:ac)(d4:ac):Option (List ac):=
 (NG s_1 d4 0 (-1)).bind fun r3=>some r3
def lR (s_1:List ac)(v_2:ac)(self:Int→Option (Int⊕Unit))(x3:Int):Option (Int⊕Unit):=
 bif (decide (x3<(len s_1))) then ((aI s_1 x3).bind fun e4=>bif (v_2==e4) then (some (.inl x3)) else (self (ai (x3+1)))) else (some (.inr ()))
def rG (s_1:List ac)(v_2:ac): Int→Option (Int⊕Unit):=aN (lR s_1 v_2)
theorem Ay (s_1:List ac)(v_2:ac): ∀a,Fin1 fun f=>lR s_1 v_2 f a:=by
 unfold lR
 repeat first|intro _|exact aX|exact bw|apply bB|apply bf|apply bg|apply bo|apply bC
theorem Gg (s_1:List ac)(v_2:ac)(x:Int):rG s_1 v_2 x=lR s_1 v_2 (rG s_1 v_2) x:=bH (Ay s_1 v_2) x
def C2 (s_1:List ac)(v_2:ac):Option Int:=
 be (ρ:=Int) (rG s_1 v_2 0) fun u5:Unit=>some (-1)
def rS (s_1:List ac)(v_2:ac):Option Bool:=
 (C2 s_1 v_2).bind fun r3=>some (decide (r3≥0))
def pz (s_1:ac)(self:Int→Option (Bool⊕Unit))(x4:Int):Option (Bool⊕Unit):=
 bif (decide (x4<(len s_1))) then ((aI s_1 x4).bind fun c5=>co (bif (decide ((c5.toNat:Int)<97)) then (co (bif (decide ((c5.toNat:Int)<48)) then true else (decide ((c5.toNat:Int)>57))) fun u7:Bool=>u7) else (co (bif (decide ((c5.toNat:Int)>122)) then (co (bif (decide ((c5.toNat:Int)<48)) then true else (decide ((c5.toNat:Int)>57))) fun u9:Bool=>u9) else false) fun u8:Bool=>u8)) fun u6:Bool=>bif u6 then (some (.inl false)) else (self (ai (x4+1)))) else (some (.inr ()))
def xL (s_1:ac): Int→Option (Bool⊕Unit):=aN (pz s_1)
theorem G3 (s_1:ac): ∀a,Fin1 fun f=>pz s_1 f a:=by
 unfold pz
 repeat first|intro _|exact aX|exact bw|apply bB|apply bf|apply bg|apply bo|apply bC
theorem V0 (s_1:ac)(x:Int):xL s_1 x=pz s_1 (xL s_1) x:=bH (G3 s_1) x
def wK (s_1:ac):Option Bool:=
 (ji (len s_1) 1 8).bind fun r2=>be (ρ:=Bool) (bif (!r2) then (some (.inr true)) else ((aI s_1 0).bind fun c13=>cf (ρ:=Bool) (bif (decide ((c13.toNat:Int)<97)) then (some (.inr true)) else ((aI s_1 0).bind fun c15=>some (.inr (decide ((c15.toNat:Int)>122))))) fun u14:Bool=>some (.inr u14))) fun u3:Bool=>bif u3 then (some false) else (be (ρ:=Bool) (xL s_1 0) fun u10:Unit=>(DK ([116,114,117,101,32,102,114,111,109,32,110,111,116,32,97,110,100,32,111,114,32,98,111,116,104,32,101,105,116,104,101,114,32,105,116,32,105,110]:ac) ([32]:ac)).bind fun r11=>(rS r11 s_1).bind fun r12=>some (!r12))
def nr (an:List ac)(self:Int→Option (Bool⊕Unit))(x2:Int):Option (Bool⊕Unit):=
 bif (decide (x2<(len an))) then ((aI an x2).bind fun e3=>(wK e3).bind fun r4=>cf (ρ:=Bool) (bif (!r4) then (some (.inr true)) else ((jk an 0 x2).bind fun s6=>(rS s6 e3).bind fun r7=>some (.inr r7))) fun u5:Bool=>bif u5 then (some (.inl false)) else (self (ai (x2+1)))) else (some (.inr ()))
def yh (an:List ac): Int→Option (Bool⊕Unit):=aN (nr an)
theorem H5 (an:List ac): ∀a,Fin1 fun f=>nr an f a:=by
 unfold nr
 repeat first|intro _|exact aX|exact bw|apply bB|apply bf|apply bg|apply bo|apply bC
theorem KH (an:List ac)(x:Int):yh an x=nr an (yh an) x:=bH (H5 an) x
def NL (an:List ac):Option Bool:=
 be (ρ:=Bool) (yh an 0) fun u8:Unit=>(ji (len an) 2 4).bind fun r9=>some r9
def WN (x_1:Clause)(a_2:ac):Option Bool:=
 some (x_1.Id==a_2)
def nP (s_1:List Clause)(f_2:ac)(self:Int→Option (Int⊕Unit))(x3:Int):Option (Int⊕Unit):=
 bif (decide (x3<(len s_1))) then ((aI s_1 x3).bind fun e4=>(WN e4 f_2).bind fun r5=>bif r5 then (some (.inl x3)) else (self (ai (x3+1)))) else (some (.inr ()))
def uj (s_1:List Clause)(f_2:ac): Int→Option (Int⊕Unit):=aN (nP s_1 f_2)
theorem Ap (s_1:List Clause)(f_2:ac): ∀a,Fin1 fun f=>nP s_1 f_2 f a:=by
 unfold nP
 repeat first|intro _|exact aX|exact bw|apply bB|apply bf|apply bg|apply bo|apply bC
theorem RI (s_1:List Clause)(f_2:ac)(x:Int):uj s_1 f_2 x=nP s_1 f_2 (uj s_1 f_2) x:=bH (Ap s_1 f_2) x
def Jv (s_1:List Clause)(f_2:ac):Option Int:=
 be (ρ:=Int) (uj s_1 f_2 0) fun u6:Unit=>some (-1)
def H6 (c_1:Contract)(fq:ac):Option Int:=
 (Jv c_1.Clauses fq).bind fun r3=>some r3
def lz (ig:Int):Option Bool:=
 (ji ig 0 36524).bind fun r2=>some r2
def mb (bp:(Condition×Int)→Option Int)(c_1:Condition)(cN:Int)(self:(Int×Int)→Option (Int⊕Int))(x5:Int×Int):Option (Int⊕Int):=
 bif (decide (x5.2<(len c_1.Parts))) then ((aI c_1.Parts x5.2).bind fun e6=>(bp (e6,x5.1)).bind fun r7=>bif (decide (r7<0)) then (some (.inl (-1))) else (self (r7,(ai (x5.2+1))))) else (some (.inr x5.1))
def mV (bp:(Condition×Int)→Option Int)(c_1:Condition)(cN:Int): (Int×Int)→Option (Int⊕Int):=aN (mb bp c_1 cN)
theorem H9 (bp:(Condition×Int)→Option Int)(c_1:Condition)(cN:Int): ∀a,Fin1 fun f=>mb bp c_1 cN f a:=by
 unfold mb
 repeat first|intro _|exact aX|exact bw|apply bB|apply bf|apply bg|apply bo|apply bC
theorem KI (bp:(Condition×Int)→Option Int)(c_1:Condition)(cN:Int)(x:Int×Int):mV bp c_1 cN x=mb bp c_1 cN (mV bp c_1 cN) x:=bH (H9 bp c_1 cN) x
def zw (bp:(Condition×Int)→Option Int)(c_1:Condition)(cN:Int):Option Int:=
 be (ρ:=Int) (bif (decide ((ai (cN+1))>15)) then (some (.inr true)) else ((ji c_1.Op 1 6).bind fun r20=>cf (ρ:=Int) (bif (!r20) then (some (.inr true)) else ((aI [(-1),0,0,0,1,2,2] c_1.Op).bind fun e22=>some (.inr ((len c_1.Parts) != e22)))) fun u21:Bool=>some (.inr u21))) fun u3:Bool=>bif u3 then (some (-1)) else (be (ρ:=Int) (bif (!((c_1.Op==2)==(!(c_1.Name==([]:ac))))) then (some (.inr true)) else (cf (ρ:=Int) (bif (c_1.Op==2) then ((wK c_1.Name).bind fun r10=>cf (ρ:=Int) (bif (!r10) then (some (.inr true)) else (cf (ρ:=Int) (bif (c_1.Op != 3) then (cf (ρ:=Int) (bif (c_1.Day != 0) then (some (.inr true)) else ((lz c_1.Day).bind fun r14=>some (.inr (!r14)))) fun u13:Bool=>some (.inr u13)) else ((lz c_1.Day).bind fun r15=>some (.inr (!r15)))) fun u12:Bool=>some (.inr u12))) fun u11:Bool=>some (.inr u11)) else (cf (ρ:=Int) (bif (c_1.Op != 3) then (cf (ρ:=Int) (bif (c_1.Day != 0) then (some (.inr true)) else ((lz c_1.Day).bind fun r18=>some (.inr (!r18)))) fun u17:Bool=>some (.inr u17)) else ((lz c_1.Day).bind fun r19=>some (.inr (!r19)))) fun u16:Bool=>some (.inr u16))) fun u9:Bool=>some (.inr u9))) fun u4:Bool=>bif u4 then (some (-1)) else (be (ρ:=Int) (mV bp c_1 cN ((ai (cN+1)),0)) fun u8:Int=>some u8))
def nf (bp:(Condition×Int)→Option Int)(x:Condition×Int):Option Int:=zw bp x.1 x.2
def WO (c_1:Condition)(cN:Int):Option Int:=aN nf (c_1,cN)
theorem acy:∀x,Fin1 fun bp=>nf bp x:=by
 unfold nf zw
 repeat first|intro _|exact aX|exact bw|exact kh|exact mG|exact iY|exact kH|exact jz|exact jA|apply bB|apply bf|apply bg|apply bo|apply bC|apply rc|unfold mV|unfold mb
theorem af0 (c_1:Condition)(cN:Int):WO c_1 cN=zw (aN nf) c_1 cN:=bH acy (c_1,cN)
def MO (c_1:Condition):Option Bool:=
 (WO c_1 0).bind fun r2=>some (decide (r2>0))
def NQ (c_1:Contract)(i_2:Int):Option Bool:=
 (aI c_1.Clauses i_2).bind fun e3=>(wK e3.Id).bind fun r4=>be (ρ:=Bool) (bif (!r4) then (some (.inr true)) else ((H6 c_1 e3.Id).bind fun r23=>cf (ρ:=Bool) (bif (r23 != i_2) then (some (.inr true)) else ((wK e3.Action).bind fun r25=>cf (ρ:=Bool) (bif (!r25) then (some (.inr true)) else ((ji e3.Kind 1 4).bind fun r27=>some (.inr (!r27)))) fun u26:Bool=>some (.inr u26))) fun u24:Bool=>some (.inr u24))) fun u5:Bool=>bif u5 then (some false) else ((ji e3.Party 0 (ai ((len c_1.Parties) - 1))).bind fun r6=>be (ρ:=Bool) (bif (!r6) then (some (.inr true)) else ((ji e3.Other 0 (ai ((len c_1.Parties) - 1))).bind fun r19=>cf (ρ:=Bool) (bif (!r19) then (some (.inr true)) else (cf (ρ:=Bool) (bif (e3.Party==e3.Other) then (some (.inr true)) else ((MO e3.When).bind fun r22=>some (.inr (!r22)))) fun u21:Bool=>some (.inr u21))) fun u20:Bool=>some (.inr u20))) fun u7:Bool=>bif u7 then (some false) else ((ji e3.Amount 0 1000000).bind fun r8=>be (ρ:=Bool) (bif (!r8) then (some (.inr true)) else ((ji e3.Within 0 400).bind fun r15=>co (bif (!r15) then true else (co (bif (e3.Kind != 1) then (co (bif (e3.Amount != 0) then true else (e3.Within != 0)) fun u18:Bool=>u18) else false) fun u17:Bool=>u17)) fun u16:Bool=>some (.inr u16))) fun u9:Bool=>bif u9 then (some false) else (bif (e3.Repair==([]:ac)) then (some true) else ((H6 c_1 e3.Repair).bind fun r10=>be (ρ:=Bool) (bif (e3.Kind != 3) then (cf (ρ:=Bool) (bif (decide (r10≥0)) then (cf (ρ:=Bool) (bif (r10 != i_2) then ((aI c_1.Clauses r10).bind fun e14=>some (.inr (e14.Kind==1))) else (some (.inr false))) fun u13:Bool=>some (.inr u13)) else (some (.inr false))) fun u12:Bool=>some (.inr u12)) else (some (.inr false))) fun u11:Bool=>some u11))))
def ma (cI:(Condition×(List ac))→Option (List ac))(c_3:Condition)(dS:List ac)(self:(Int×(List ac))→Option ((List ac)⊕(List ac)))(x4:Int×(List ac)):Option ((List ac)⊕(List ac)):=
 bif (decide (x4.1<(len c_3.Parts))) then ((aI c_3.Parts x4.1).bind fun e5=>(cI (e5,x4.2)).bind fun r6=>self ((ai (x4.1+1)),r6)) else (some (.inr x4.2))
def oO (cI:(Condition×(List ac))→Option (List ac))(c_3:Condition)(dS:List ac): (Int×(List ac))→Option ((List ac)⊕(List ac)):=aN (ma cI c_3 dS)
theorem H2 (cI:(Condition×(List ac))→Option (List ac))(c_3:Condition)(dS:List ac): ∀a,Fin1 fun f=>ma cI c_3 dS f a:=by
 unfold ma
 repeat first|intro _|exact aX|exact bw|apply bB|apply bf|apply bg|apply bo|apply bC
theorem KF (cI:(Condition×(List ac))→Option (List ac))(c_3:Condition)(dS:List ac)(x:Int×(List ac)):oO cI c_3 dS x=ma cI c_3 dS (oO cI c_3 dS) x:=bH (H2 cI c_3 dS) x
def zt (cI:(Condition×(List ac))→Option (List ac))(c_3:Condition)(dS:List ac):Option (List ac):=
 be (ρ:=(List ac)) (bif (c_3.Op==2) then ((iC 16 dS [c_3.Name]).bind fun a8=>some (.inr a8)) else (some (.inr dS))) fun u3:(List ac)=>be (ρ:=(List ac)) (oO cI c_3 dS (0,u3)) fun u7:(List ac)=>some u7
def oM (cI:(Condition×(List ac))→Option (List ac))(x:Condition×(List ac)):Option (List ac):=zt cI x.1 x.2
def WL (c_3:Condition)(dS:List ac):Option (List ac):=aN oM (c_3,dS)
theorem aco:∀x,Fin1 fun cI=>oM cI x:=by
 unfold oM zt
 repeat first|intro _|exact aX|exact bw|exact kh|exact mG|exact iY|exact kH|exact jz|exact jA|apply bB|apply bf|apply bg|apply bo|apply bC|apply rc|unfold oO|unfold ma
theorem afZ (c_3:Condition)(dS:List ac):WL c_3 dS=zt (aN oM) c_3 dS:=bH aco (c_3,dS)
def lQ (s_2:List ac)(x2:Int)(self:(Int×Int×(List ac))→Option ((List ac)⊕(Int×(List ac))))(x6:Int×Int×(List ac)):Option ((List ac)⊕(Int×(List ac))):=
 bif (decide (x6.2.1<(((Int.toNat (len s_2) - Int.toNat x2):Nat):Int))) then ((wh x6.2.2 (0+Int.toNat x2) (Int.toNat (len s_2) - Int.toNat x2) x6.2.1).bind fun e7=>(wh x6.2.2 (0+Int.toNat x2) (Int.toNat (len s_2) - Int.toNat x2) (ai (x6.2.1 - 1))).bind fun e8=>cf (ρ:=(List ac)) (bif (!(e7==e8)) then ((wh x6.2.2 (0+Int.toNat x2) (Int.toNat (len s_2) - Int.toNat x2) x6.2.1).bind fun e10=>(aI x6.2.2 x6.1).bind fun e11=>some (.inr ((ai (x6.1+1)),(dw x6.2.2 x6.1 e10)))) else (some (.inr (x6.1,x6.2.2)))) fun u9:Int×(List ac)=>self (u9.1,(ai (x6.2.1+1)),u9.2)) else (some (.inr (x6.1,x6.2.2)))
def lf (s_2:List ac)(x2:Int):(Int×Int×(List ac))→Option ((List ac)⊕(Int×(List ac))):=aN (lQ s_2 x2)
theorem Ao (s_2:List ac)(x2:Int):∀a,Fin1 fun f=>lQ s_2 x2 f a:=by
 unfold lQ
 repeat first|intro _|exact aX|exact bw|apply bB|apply bf|apply bg|apply bo|apply bC
theorem FN (s_2:List ac)(x2:Int)(x:Int×Int×(List ac)):lf s_2 x2 x=lQ s_2 x2 (lf s_2 x2) x:=bH (Ao s_2 x2) x
def lP (s_2:List ac)(self:Int→Option ((List ac)⊕(List ac)))(x2:Int):Option ((List ac)⊕(List ac)):=
 bif (decide (x2<(len s_2))) then ((aI s_2 x2).bind fun e3=>(aI s_2 (ai (x2 - 1))).bind fun e4=>bif (e3==e4) then ((jS s_2.length x2 (len s_2)).bind fun s5=>cf (ρ:=(List ac)) (lf s_2 x2 (x2,1,s_2)) fun u15:Int×(List ac)=>(jS u15.2.length u15.1 (len u15.2)).bind fun s16=>(yz u15.2 (0+Int.toNat u15.1) (Int.toNat (len u15.2) - Int.toNat u15.1) []).bind fun k17=>(jS k17.length 0 u15.1).bind fun s18=>(jV k17 (0+Int.toNat (0)) (Int.toNat u15.1 - Int.toNat (0))).bind fun p19=>some (.inl p19)) else (self (ai (x2+1)))) else (some (.inr s_2))
def rF (s_2:List ac): Int→Option ((List ac)⊕(List ac)):=aN (lP s_2)
theorem An (s_2:List ac): ∀a,Fin1 fun f=>lP s_2 f a:=by
 unfold lP
 repeat first|intro _|exact aX|exact bw|apply bB|apply bf|apply bg|apply bo|apply bC
theorem FM (s_2:List ac)(x:Int):rF s_2 x=lP s_2 (rF s_2) x:=bH (An s_2) x
def CP (s_2:List ac):Option (List ac):=
 bif (decide ((len s_2)<2)) then (some s_2) else (be (ρ:=(List ac)) (rF s_2 1) fun u20:(List ac)=>some u20)
def B2 (km:List ac):Option (List ac):=
 (vx km).bind fun r2=>bif Nat.beq r2.length km.length then ((CP r2).bind fun r4=>some r4) else none
def ny (c_1:Contract)(self:(Int×(List ac))→Option ((List ac)⊕(List ac)))(x2:Int×(List ac)):Option ((List ac)⊕(List ac)):=
 bif (decide (x2.1<(len c_1.Clauses))) then ((aI c_1.Clauses x2.1).bind fun e3=>(iC 16 x2.2 [e3.Action]).bind fun a4=>(WL e3.When a4).bind fun r5=>self ((ai (x2.1+1)),r5)) else (some (.inr x2.2))
def qu (c_1:Contract): (Int×(List ac))→Option ((List ac)⊕(List ac)):=aN (ny c_1)
theorem Ig (c_1:Contract): ∀a,Fin1 fun f=>ny c_1 f a:=by
 unfold ny
 repeat first|intro _|exact aX|exact bw|apply bB|apply bf|apply bg|apply bo|apply bC
theorem KL (c_1:Contract)(x:Int×(List ac)):qu c_1 x=ny c_1 (qu c_1) x:=bH (Ig c_1) x
def yi (c_1:Contract):Option (List ac):=
 be (ρ:=(List ac)) (qu c_1 (0,[])) fun u6:(List ac)=>(B2 u6).bind fun r7=>some r7
def nq (c_1:Contract)(self:Int→Option (Bool⊕Unit))(x4:Int):Option (Bool⊕Unit):=
 bif (decide (x4<(len c_1.Clauses))) then ((NQ c_1 x4).bind fun r5=>bif (!r5) then (some (.inl false)) else (self (ai (x4+1)))) else (some (.inr ()))
def oH (c_1:Contract): Int→Option (Bool⊕Unit):=aN (nq c_1)
theorem FT (c_1:Contract): ∀a,Fin1 fun f=>nq c_1 f a:=by
 unfold nq
 repeat first|intro _|exact aX|exact bw|apply bB|apply bf|apply bg|apply bo|apply bC
theorem Kv (c_1:Contract)(x:Int):oH c_1 x=nq c_1 (oH c_1) x:=bH (FT c_1) x
def M2 (c_1:Contract):Option Bool:=
 (NL c_1.Parties).bind fun r2=>be (ρ:=Bool) (bif (!r2) then (some (.inr true)) else ((ji (len c_1.Clauses) 1 12).bind fun r8=>some (.inr (!r8)))) fun u3:Bool=>bif u3 then (some false) else (be (ρ:=Bool) (oH c_1 0) fun u6:Unit=>(yi c_1).bind fun r7=>some (decide ((len r7)≤16)))
def lI (cp:List ac)(self:Int→Option (Bool⊕Unit))(x2:Int):Option (Bool⊕Unit):=
 bif (decide (x2<(len cp))) then ((aI cp x2).bind fun e3=>(wK e3).bind fun r4=>cf (ρ:=Bool) (bif (!r4) then (some (.inr true)) else (cf (ρ:=Bool) (bif (decide (x2>0)) then ((aI cp (ai (x2 - 1))).bind fun e7=>some (.inr (Op.bytesLess e3 e7||e3==e7))) else (some (.inr false))) fun u6:Bool=>some (.inr u6))) fun u5:Bool=>bif u5 then (some (.inl false)) else (self (ai (x2+1)))) else (some (.inr ()))
def mu (cp:List ac): Int→Option (Bool⊕Unit):=aN (lI cp)
theorem zV (cp:List ac): ∀a,Fin1 fun f=>lI cp f a:=by
 unfold lI
 repeat first|intro _|exact aX|exact bw|apply bB|apply bf|apply bg|apply bo|apply bC
theorem Et (cp:List ac)(x:Int):mu cp x=lI cp (mu cp) x:=bH (zV cp) x
def BN (cp:List ac):Option Bool:=
 be (ρ:=Bool) (mu cp 0) fun u8:Unit=>some (decide ((len cp)≤16))
def BV (f_1:ac)(a_2:List ac):Option Bool:=
 (rS a_2 f_1).bind fun r3=>some (!r3)
def nU (s_1:List ac)(f_2:(List ac))(self:Int→Option (Int⊕Unit))(x3:Int):Option (Int⊕Unit):=
 bif (decide (x3<(len s_1))) then ((aI s_1 x3).bind fun e4=>(BV e4 f_2).bind fun r5=>bif r5 then (some (.inl x3)) else (self (ai (x3+1)))) else (some (.inr ()))
def uo (s_1:List ac)(f_2:(List ac)): Int→Option (Int⊕Unit):=aN (nU s_1 f_2)
theorem Aw (s_1:List ac)(f_2:(List ac)): ∀a,Fin1 fun f=>nU s_1 f_2 f a:=by
 unfold nU
 repeat first|intro _|exact aX|exact bw|apply bB|apply bf|apply bg|apply bo|apply bC
theorem RN (s_1:List ac)(f_2:(List ac))(x:Int):uo s_1 f_2 x=nU s_1 f_2 (uo s_1 f_2) x:=bH (Aw s_1 f_2) x
def JA (s_1:List ac)(f_2:(List ac)):Option Int:=
 be (ρ:=Int) (uo s_1 f_2 0) fun u6:Unit=>some (-1)
def Ju (s_1:List ac)(f_2:(List ac)):Option Bool:=
 (JA s_1 f_2).bind fun r3=>some (decide (r3≥0))
def sK (an:List Int)(self:(Int×Int)→Option (Int⊕Int))(x2:Int×Int):Option (Int⊕Int):=
 bif (decide (x2.2<(len an))) then ((aI an x2.2).bind fun e3=>self ((ai (x2.1+e3)),(ai (x2.2+1)))) else (some (.inr x2.1))
def Jl (an:List Int): (Int×Int)→Option (Int⊕Int):=aN (sK an)
theorem Pf (an:List Int): ∀a,Fin1 fun f=>sK an f a:=by
 unfold sK
 repeat first|intro _|exact aX|exact bw|apply bB|apply bf|apply bg|apply bo|apply bC
def wZ (an:List Int):Option Int:=
 be (ρ:=Int) (Jl an (0,0)) fun u4:Int=>some u4
def BH (x_1:Clause)(a_2:Contract)(a_3:Int):Option Bool:=
 (aI a_2.Clauses a_3).bind fun e4=>some (x_1.Repair==e4.Id)
def nQ (s_1:List Clause)(f_2:Contract×Int)(self:Int→Option (Int⊕Unit))(x3:Int):Option (Int⊕Unit):=
 bif (decide (x3<(len s_1))) then ((aI s_1 x3).bind fun e4=>(BH e4 f_2.1 f_2.2).bind fun r5=>bif r5 then (some (.inl x3)) else (self (ai (x3+1)))) else (some (.inr ()))
def uk (s_1:List Clause)(f_2:Contract×Int): Int→Option (Int⊕Unit):=aN (nQ s_1 f_2)
theorem Aq (s_1:List Clause)(f_2:Contract×Int): ∀a,Fin1 fun f=>nQ s_1 f_2 f a:=by
 unfold nQ
 repeat first|intro _|exact aX|exact bw|apply bB|apply bf|apply bg|apply bo|apply bC
theorem RJ (s_1:List Clause)(f_2:Contract×Int)(x:Int):uk s_1 f_2 x=nQ s_1 f_2 (uk s_1 f_2) x:=bH (Aq s_1 f_2) x
def Jw (s_1:List Clause)(f_2:Contract×Int):Option Int:=
 be (ρ:=Int) (uk s_1 f_2 0) fun u6:Unit=>some (-1)
def Jp (s_1:List Clause)(f_2:Contract×Int):Option Bool:=
 (Jw s_1 (f_2.1,f_2.2)).bind fun r3=>some (decide (r3≥0))
def BF (c_1:Contract)(i_2:Int):Option Bool:=
 (Jp c_1.Clauses (c_1,i_2)).bind fun r3=>some r3
def Jk (kq:Duty)(a_2:Duty):Option Bool:=
 some (kq.Clause==a_2.Clause)
def nR (s_1:List Duty)(f_2:Duty)(self:Int→Option (Int⊕Unit))(x3:Int):Option (Int⊕Unit):=
 bif (decide (x3<(len s_1))) then ((aI s_1 x3).bind fun e4=>(Jk e4 f_2).bind fun r5=>bif r5 then (some (.inl x3)) else (self (ai (x3+1)))) else (some (.inr ()))
def ul (s_1:List Duty)(f_2:Duty): Int→Option (Int⊕Unit):=aN (nR s_1 f_2)
theorem Ar (s_1:List Duty)(f_2:Duty): ∀a,Fin1 fun f=>nR s_1 f_2 f a:=by
 unfold nR
 repeat first|intro _|exact aX|exact bw|apply bB|apply bf|apply bg|apply bo|apply bC
theorem RK (s_1:List Duty)(f_2:Duty)(x:Int):ul s_1 f_2 x=nR s_1 f_2 (ul s_1 f_2) x:=bH (Ar s_1 f_2) x
def Jx (s_1:List Duty)(f_2:Duty):Option Int:=
 be (ρ:=Int) (ul s_1 f_2 0) fun u6:Unit=>some (-1)
def Jq (s_1:List Duty)(f_2:Duty):Option Bool:=
 (Jx s_1 f_2).bind fun r3=>some (decide (r3≥0))
def BK (c_1:Contract)(s_2:State)(i_3:Int):Option Bool:=
 (aI s_2.Duties i_3).bind fun e4=>(ji e4.Clause 0 (ai ((len c_1.Clauses) - 1))).bind fun r5=>be (ρ:=Bool) (bif (!r5) then (some (.inr true)) else ((aI c_1.Clauses e4.Clause).bind fun e18=>cf (ρ:=Bool) (bif (e18.Kind != 1) then (some (.inr true)) else ((ji e4.Since 0 s_2.Day).bind fun r20=>some (.inr (!r20)))) fun u19:Bool=>some (.inr u19))) fun u6:Bool=>bif u6 then (some false) else ((aI c_1.Clauses e4.Clause).bind fun e7=>be (ρ:=Bool) (bif (e4.Due != (ai (e4.Since+e7.Within))) then (some (.inr true)) else ((lz e4.Due).bind fun r14=>cf (ρ:=Bool) (bif (!r14) then (some (.inr true)) else (cf (ρ:=Bool) (bif (decide (i_3>0)) then ((aI s_2.Duties (ai (i_3 - 1))).bind fun e17=>some (.inr (decide (e4.Since<e17.Since)))) else (some (.inr false))) fun u16:Bool=>some (.inr u16))) fun u15:Bool=>some (.inr u15))) fun u8:Bool=>bif u8 then (some false) else ((BF c_1 e4.Clause).bind fun r9=>be (ρ:=Bool) (bif (!r9) then ((jk s_2.Duties 0 i_3).bind fun s12=>(Jq s12 e4).bind fun r13=>some (.inr r13)) else (some (.inr false))) fun u10:Bool=>bif u10 then (some false) else (bif (e4.Status==1) then (co (bif (decide (e4.Due≥s_2.Day)) then (!s_2.Over) else false) fun u11:Bool=>some u11) else (bif (e4.Status==2) then (some true) else (bif (e4.Status==3) then (some (decide (e4.Due<s_2.Day))) else (bif (e4.Status==4) then (some s_2.Over) else (some false)))))))
def QS (x_1:Int):Option Bool:=
 (ji x_1 (-1000000000) 1000000000).bind fun r2=>some r2
def BX (b_1:Int):Option Bool:=
 (QS b_1).bind fun r2=>some (!r2)
def nT (s_1:List Int)(f_2:Unit)(self:Int→Option (Int⊕Unit))(x3:Int):Option (Int⊕Unit):=
 bif (decide (x3<(len s_1))) then ((aI s_1 x3).bind fun e4=>(BX e4).bind fun r5=>bif r5 then (some (.inl x3)) else (self (ai (x3+1)))) else (some (.inr ()))
def un (s_1:List Int)(f_2:Unit): Int→Option (Int⊕Unit):=aN (nT s_1 f_2)
theorem Av (s_1:List Int)(f_2:Unit): ∀a,Fin1 fun f=>nT s_1 f_2 f a:=by
 unfold nT
 repeat first|intro _|exact aX|exact bw|apply bB|apply bf|apply bg|apply bo|apply bC
theorem RM (s_1:List Int)(f_2:Unit)(x:Int):un s_1 f_2 x=nT s_1 f_2 (un s_1 f_2) x:=bH (Av s_1 f_2) x
def Jz (s_1:List Int)(f_2:Unit):Option Int:=
 be (ρ:=Int) (un s_1 f_2 0) fun u6:Unit=>some (-1)
def Jt (s_1:List Int)(f_2:Unit):Option Bool:=
 (Jz s_1 ()).bind fun r3=>some (decide (r3≥0))
def lK (c_1:Contract)(s_2:State)(self:Int→Option (Bool⊕Unit))(x7:Int):Option (Bool⊕Unit):=
 bif (decide (x7<(len s_2.Duties))) then ((BK c_1 s_2 x7).bind fun r8=>bif (!r8) then (some (.inl false)) else (self (ai (x7+1)))) else (some (.inr ()))
def nE (c_1:Contract)(s_2:State): Int→Option (Bool⊕Unit):=aN (lK c_1 s_2)
theorem zW (c_1:Contract)(s_2:State): ∀a,Fin1 fun f=>lK c_1 s_2 f a:=by
 unfold lK
 repeat first|intro _|exact aX|exact bw|apply bB|apply bf|apply bg|apply bo|apply bC
theorem Ew (c_1:Contract)(s_2:State)(x:Int):nE c_1 s_2 x=lK c_1 s_2 (nE c_1 s_2) x:=bH (zW c_1 s_2) x
def BP (c_1:Contract)(s_2:State):Option Bool:=
 (yi c_1).bind fun r3=>(lz s_2.Day).bind fun r4=>be (ρ:=Bool) (bif (!r4) then (some (.inr true)) else ((BN s_2.Facts).bind fun r13=>cf (ρ:=Bool) (bif (!r13) then (some (.inr true)) else ((Ju s_2.Facts r3).bind fun r15=>some (.inr r15))) fun u14:Bool=>some (.inr u14))) fun u5:Bool=>bif u5 then (some false) else (be (ρ:=Bool) (bif (decide ((len s_2.Duties)>24)) then (some (.inr true)) else (cf (ρ:=Bool) (bif ((len s_2.Balances) != (len c_1.Parties)) then (some (.inr true)) else ((wZ s_2.Balances).bind fun r12=>some (.inr (r12 != 0)))) fun u11:Bool=>some (.inr u11))) fun u6:Bool=>bif u6 then (some false) else (be (ρ:=Bool) (nE c_1 s_2 0) fun u9:Unit=>(Jt s_2.Balances ()).bind fun r10=>some (!r10)))
def KD (c_1:Contract)(s_2:State):Option Bool:=
 (M2 c_1).bind fun r3=>be (ρ:=Bool) (bif r3 then ((BP c_1 s_2).bind fun r5=>some (.inr r5)) else (some (.inr false))) fun u4:Bool=>some u4
def BT (p_1:Int)(a_2:Contract):Option Bool:=
 (ji p_1 0 (ai ((len a_2.Parties) - 1))).bind fun r3=>some (!r3)
def nS (s_1:List Int)(f_2:Contract)(self:Int→Option (Int⊕Unit))(x3:Int):Option (Int⊕Unit):=
 bif (decide (x3<(len s_1))) then ((aI s_1 x3).bind fun e4=>(BT e4 f_2).bind fun r5=>bif r5 then (some (.inl x3)) else (self (ai (x3+1)))) else (some (.inr ()))
def um (s_1:List Int)(f_2:Contract): Int→Option (Int⊕Unit):=aN (nS s_1 f_2)
theorem Au (s_1:List Int)(f_2:Contract): ∀a,Fin1 fun f=>nS s_1 f_2 f a:=by
 unfold nS
 repeat first|intro _|exact aX|exact bw|apply bB|apply bf|apply bg|apply bo|apply bC
theorem RL (s_1:List Int)(f_2:Contract)(x:Int):um s_1 f_2 x=nS s_1 f_2 (um s_1 f_2) x:=bH (Au s_1 f_2) x
def Jy (s_1:List Int)(f_2:Contract):Option Int:=
 be (ρ:=Int) (um s_1 f_2 0) fun u6:Unit=>some (-1)
def Js (s_1:List Int)(f_2:Contract):Option Bool:=
 (Jy s_1 f_2).bind fun r3=>some (decide (r3≥0))
def BR (c_1:Contract)(s_2:State)(gj:List Int):Option Bool:=
 (KD c_1 s_2).bind fun r4=>be (ρ:=Bool) (bif r4 then ((Js gj c_1).bind fun r6=>some (.inr (!r6))) else (some (.inr false))) fun u5:Bool=>some u5
def QR (d_1:Duty)(x_2:Clause)(a_3:Int):Option Bool:=
 some (x_2.Party==a_3)
def MB (x_1:Int):Option Bool:=
 some (x_1 != x_1)
def MA (x_1:Int)(y_2:Int):Option Int:=
 (MB x_1).bind fun r3=>(MB y_2).bind fun r4=>bif r3 then (bif r4 then (some 0) else (some (-1))) else (bif r4 then (some 1) else (bif (decide (x_1<y_2)) then (some (-1)) else (bif (decide (x_1>y_2)) then (some 1) else (some 0))))
def Be (i_1:Int)(k_2:Int)(a_3:State):Option Int:=
 (aI a_3.Duties i_1).bind fun e4=>(aI a_3.Duties k_2).bind fun e5=>(MA e4.Due e5.Due).bind fun r6=>some r6
def ku (cw:List Int)(eI:Int)(eN:Int)(cT:State)(x5:Int×Int×Int×(List Int))(self:(Int×(List Int))→Option ((List Int)⊕(List Int)))(x6:Int×(List Int)):Option ((List Int)⊕(List Int)):=
 cf (ρ:=(List Int)) (bif (decide (x6.1>x5.1)) then ((aI x6.2 x6.1).bind fun e18=>(aI x6.2 (ai (x6.1 - 1))).bind fun e19=>(Be e18 e19 cT).bind fun r20=>some (.inr (decide (r20<0)))) else (some (.inr false))) fun u7:Bool=>bif u7 then ((aI x6.2 (ai (x6.1 - 1))).bind fun e8=>(aI x6.2 x6.1).bind fun e9=>(aI x6.2 x6.1).bind fun e10=>(aI (dw x6.2 x6.1 e8) (ai (x6.1 - 1))).bind fun e13=>co (dw (dw x6.2 x6.1 e8) (ai (x6.1 - 1)) e9) fun rw14:List Int=>self ((ai (x6.1 - 1)),rw14)) else (some (.inr x6.2))
def lg (cw:List Int)(eI:Int)(eN:Int)(cT:State)(x5:Int×Int×Int×(List Int)):(Int×(List Int))→Option ((List Int)⊕(List Int)):=aN (ku cw eI eN cT x5)
theorem AB (cw:List Int)(eI:Int)(eN:Int)(cT:State)(x5:Int×Int×Int×(List Int)):∀a,Fin1 fun f=>ku cw eI eN cT x5 f a:=by
 unfold ku
 repeat first|intro _|exact aX|exact bw|apply bB|apply bf|apply bg|apply bo|apply bC
theorem vG (cw:List Int)(eI:Int)(eN:Int)(cT:State)(x5:Int×Int×Int×(List Int))(x:Int×(List Int)):lg cw eI eN cT x5 x=ku cw eI eN cT x5 (lg cw eI eN cT x5) x:=bH (AB cw eI eN cT x5) x
def kt (cw:List Int)(eI:Int)(eN:Int)(cT:State)(self:(Int×Int×Int×(List Int))→Option ((List Int)⊕(List Int)))(x5:Int×Int×Int×(List Int)):Option ((List Int)⊕(List Int)):=
 bif (decide (x5.2.2.1<x5.2.1)) then (cf (ρ:=(List Int)) (lg cw eI eN cT x5 (x5.2.2.1,x5.2.2.2)) fun u21:(List Int)=>self (x5.1,x5.2.1,(ai (x5.2.2.1+1)),u21)) else (some (.inr x5.2.2.2))
def mw (cw:List Int)(eI:Int)(eN:Int)(cT:State): (Int×Int×Int×(List Int))→Option ((List Int)⊕(List Int)):=aN (kt cw eI eN cT)
theorem Az (cw:List Int)(eI:Int)(eN:Int)(cT:State): ∀a,Fin1 fun f=>kt cw eI eN cT f a:=by
 unfold kt
 repeat first|intro _|exact aX|exact bw|apply bB|apply bf|apply bg|apply bo|apply bC
theorem vF (cw:List Int)(eI:Int)(eN:Int)(cT:State)(x:Int×Int×Int×(List Int)):mw cw eI eN cT x=kt cw eI eN cT (mw cw eI eN cT) x:=bH (Az cw eI eN cT) x
def rU (cw:List Int)(eI:Int)(eN:Int)(cT:State):Option (List Int):=
 be (ρ:=(List Int)) (mw cw eI eN cT (eI,eN,(ai (eI+1)),cw)) fun u22:(List Int)=>bif Nat.beq u22.length cw.length then (some u22) else none
def lS (eo:List Int)(eX:Int)(fP:Int)(hZ:Int)(fE:State)(self:(Int×(List Int))→Option ((List Int)⊕(List Int)))(x6:Int×(List Int)):Option ((List Int)⊕(List Int)):=
 bif (decide (x6.1<hZ)) then ((aI x6.2 (ai (fP+x6.1))).bind fun e7=>(aI x6.2 (ai (eX+x6.1))).bind fun e8=>(aI x6.2 (ai (eX+x6.1))).bind fun e9=>(aI (dw x6.2 (ai (eX+x6.1)) e7) (ai (fP+x6.1))).bind fun e12=>co (dw (dw x6.2 (ai (eX+x6.1)) e7) (ai (fP+x6.1)) e8) fun rw13:List Int=>self ((ai (x6.1+1)),rw13)) else (some (.inr x6.2))
def my (eo:List Int)(eX:Int)(fP:Int)(hZ:Int)(fE:State): (Int×(List Int))→Option ((List Int)⊕(List Int)):=aN (lS eo eX fP hZ fE)
theorem AG (eo:List Int)(eX:Int)(fP:Int)(hZ:Int)(fE:State): ∀a,Fin1 fun f=>lS eo eX fP hZ fE f a:=by
 unfold lS
 repeat first|intro _|exact aX|exact bw|apply bB|apply bf|apply bg|apply bo|apply bC
theorem Gu (eo:List Int)(eX:Int)(fP:Int)(hZ:Int)(fE:State)(x:Int×(List Int)):my eo eX fP hZ fE x=lS eo eX fP hZ fE (my eo eX fP hZ fE) x:=bH (AG eo eX fP hZ fE) x
def vI (eo:List Int)(eX:Int)(fP:Int)(hZ:Int)(fE:State):Option (List Int):=
 be (ρ:=(List Int)) (my eo eX fP hZ fE (0,eo)) fun u17:(List Int)=>bif Nat.beq u17.length eo.length then (some u17) else none
def nV (eM:List Int)(a_9:Int)(eT:Int)(gM:Int)(ec:State)(self:(Int×Int×(List Int))→Option ((List Int)⊕(Int×Int×(List Int))))(x6:Int×Int×(List Int)):Option ((List Int)⊕(Int×Int×(List Int))):=
 bif (x6.1 != x6.2.1) then (cf (ρ:=(List Int)) (bif (decide (x6.1>x6.2.1)) then ((vI x6.2.2 (ai (eT - x6.1)) eT x6.2.1 ec).bind fun r8=>bif Nat.beq r8.length x6.2.2.length then (some (.inr ((ai (x6.1 - x6.2.1)),x6.2.1,r8))) else none) else ((vI x6.2.2 (ai (eT - x6.1)) (ai ((ai (eT+x6.2.1)) - x6.1)) x6.1 ec).bind fun r10=>bif Nat.beq r10.length x6.2.2.length then (some (.inr (x6.1,(ai (x6.2.1 - x6.1)),r10))) else none)) fun u7:Int×Int×(List Int)=>self (u7.1,u7.2.1,u7.2.2)) else (some (.inr (eT,x6.1,x6.2.2)))
def uq (eM:List Int)(a_9:Int)(eT:Int)(gM:Int)(ec:State): (Int×Int×(List Int))→Option ((List Int)⊕(Int×Int×(List Int))):=aN (nV eM a_9 eT gM ec)
theorem AC (eM:List Int)(a_9:Int)(eT:Int)(gM:Int)(ec:State): ∀a,Fin1 fun f=>nV eM a_9 eT gM ec f a:=by
 unfold nV
 repeat first|intro _|exact aX|exact bw|apply bB|apply bf|apply bg|apply bo|apply bC
theorem RO (eM:List Int)(a_9:Int)(eT:Int)(gM:Int)(ec:State)(x:Int×Int×(List Int)):uq eM a_9 eT gM ec x=nV eM a_9 eT gM ec (uq eM a_9 eT gM ec) x:=bH (AC eM a_9 eT gM ec) x
def xz (eM:List Int)(a_9:Int)(eT:Int)(gM:Int)(ec:State):Option (List Int):=
 be (ρ:=(List Int)) (uq eM a_9 eT gM ec ((ai (eT - a_9)),(ai (gM - eT)),eM)) fun u12:Int×Int×(List Int)=>(vI u12.2.2 (ai (u12.1 - u12.2.1)) u12.1 u12.2.1 ec).bind fun r13=>bif Nat.beq r13.length u12.2.2.length then (bif Nat.beq r13.length eM.length then (some r13) else none) else none
def js (az:((List Int)×Int×Int×Int×State)→Option (List Int))(ar:List Int)(aW:Int)(aY:Int)(bc:Int)(aE:State)(self:(Int×Int)→Option ((List Int)⊕(Int×Int×(List Int))))(x6:Int×Int):Option ((List Int)⊕(Int×Int×(List Int))):=
 bif (decide (x6.1<x6.2)) then ((aI ar (IntKind.i64.wrap (d8 .u64 (IntKind.u64.wrap (ai (x6.1+x6.2))) 1))).bind fun e7=>(aI ar aW).bind fun e8=>(Be e7 e8 aE).bind fun r9=>co (bif (decide (r9<0)) then ((ai ((IntKind.i64.wrap (d8 .u64 (IntKind.u64.wrap (ai (x6.1+x6.2))) 1))+1)),x6.2) else (x6.1,(IntKind.i64.wrap (d8 .u64 (IntKind.u64.wrap (ai (x6.1+x6.2))) 1)))) fun u10:Int×Int=>self (u10.1,u10.2)) else (some (.inr (aW,x6.1,ar)))
def pw (az:((List Int)×Int×Int×Int×State)→Option (List Int))(ar:List Int)(aW:Int)(aY:Int)(bc:Int)(aE:State): (Int×Int)→Option ((List Int)⊕(Int×Int×(List Int))):=aN (js az ar aW aY bc aE)
theorem AH (az:((List Int)×Int×Int×Int×State)→Option (List Int))(ar:List Int)(aW:Int)(aY:Int)(bc:Int)(aE:State): ∀a,Fin1 fun f=>js az ar aW aY bc aE f a:=by
 unfold js
 repeat first|intro _|exact aX|exact bw|apply bB|apply bf|apply bg|apply bo|apply bC
theorem Gv (az:((List Int)×Int×Int×Int×State)→Option (List Int))(ar:List Int)(aW:Int)(aY:Int)(bc:Int)(aE:State)(x:Int×Int):pw az ar aW aY bc aE x=js az ar aW aY bc aE (pw az ar aW aY bc aE) x:=bH (AH az ar aW aY bc aE) x
def jt (az:((List Int)×Int×Int×Int×State)→Option (List Int))(ar:List Int)(aW:Int)(aY:Int)(bc:Int)(aE:State)(u11:Int×Int×(List Int))(self:(Int×(List Int))→Option ((List Int)⊕(List Int)))(x12:Int×(List Int)):Option ((List Int)⊕(List Int)):=
 bif (decide (x12.1<(ai (u11.2.1 - 1)))) then ((aI x12.2 (ai (x12.1+1))).bind fun e13=>(aI x12.2 x12.1).bind fun e14=>(aI x12.2 x12.1).bind fun e15=>(aI (dw x12.2 x12.1 e13) (ai (x12.1+1))).bind fun e18=>co (dw (dw x12.2 x12.1 e13) (ai (x12.1+1)) e14) fun rw19:List Int=>self ((ai (x12.1+1)),rw19)) else (some (.inr x12.2))
def jX (az:((List Int)×Int×Int×Int×State)→Option (List Int))(ar:List Int)(aW:Int)(aY:Int)(bc:Int)(aE:State)(u11:Int×Int×(List Int)):(Int×(List Int))→Option ((List Int)⊕(List Int)):=aN (jt az ar aW aY bc aE u11)
theorem AI (az:((List Int)×Int×Int×Int×State)→Option (List Int))(ar:List Int)(aW:Int)(aY:Int)(bc:Int)(aE:State)(u11:Int×Int×(List Int)):∀a,Fin1 fun f=>jt az ar aW aY bc aE u11 f a:=by
 unfold jt
 repeat first|intro _|exact aX|exact bw|apply bB|apply bf|apply bg|apply bo|apply bC
theorem Gw (az:((List Int)×Int×Int×Int×State)→Option (List Int))(ar:List Int)(aW:Int)(aY:Int)(bc:Int)(aE:State)(u11:Int×Int×(List Int))(x:Int×(List Int)):jX az ar aW aY bc aE u11 x=jt az ar aW aY bc aE u11 (jX az ar aW aY bc aE u11) x:=bH (AI az ar aW aY bc aE u11) x
def ju (az:((List Int)×Int×Int×Int×State)→Option (List Int))(ar:List Int)(aW:Int)(aY:Int)(bc:Int)(aE:State)(self:(Int×Int)→Option ((List Int)⊕(Int×Int×(List Int))))(x25:Int×Int):Option ((List Int)⊕(Int×Int×(List Int))):=
 bif (decide (x25.1<x25.2)) then ((aI ar aY).bind fun e26=>(aI ar (IntKind.i64.wrap (d8 .u64 (IntKind.u64.wrap (ai (x25.1+x25.2))) 1))).bind fun e27=>(Be e26 e27 aE).bind fun r28=>co (bif (!(decide (r28<0))) then ((ai ((IntKind.i64.wrap (d8 .u64 (IntKind.u64.wrap (ai (x25.1+x25.2))) 1))+1)),x25.2) else (x25.1,(IntKind.i64.wrap (d8 .u64 (IntKind.u64.wrap (ai (x25.1+x25.2))) 1)))) fun u29:Int×Int=>self (u29.1,u29.2)) else (some (.inr (aY,x25.1,ar)))
def px (az:((List Int)×Int×Int×Int×State)→Option (List Int))(ar:List Int)(aW:Int)(aY:Int)(bc:Int)(aE:State): (Int×Int)→Option ((List Int)⊕(Int×Int×(List Int))):=aN (ju az ar aW aY bc aE)
theorem AJ (az:((List Int)×Int×Int×Int×State)→Option (List Int))(ar:List Int)(aW:Int)(aY:Int)(bc:Int)(aE:State): ∀a,Fin1 fun f=>ju az ar aW aY bc aE f a:=by
 unfold ju
 repeat first|intro _|exact aX|exact bw|apply bB|apply bf|apply bg|apply bo|apply bC
theorem Gx (az:((List Int)×Int×Int×Int×State)→Option (List Int))(ar:List Int)(aW:Int)(aY:Int)(bc:Int)(aE:State)(x:Int×Int):px az ar aW aY bc aE x=ju az ar aW aY bc aE (px az ar aW aY bc aE) x:=bH (AJ az ar aW aY bc aE) x
def jv (az:((List Int)×Int×Int×Int×State)→Option (List Int))(ar:List Int)(aW:Int)(aY:Int)(bc:Int)(aE:State)(u30:Int×Int×(List Int))(self:(Int×(List Int))→Option ((List Int)⊕(List Int)))(x31:Int×(List Int)):Option ((List Int)⊕(List Int)):=
 bif (decide (x31.1>u30.2.1)) then ((aI x31.2 (ai (x31.1 - 1))).bind fun e32=>(aI x31.2 x31.1).bind fun e33=>(aI x31.2 x31.1).bind fun e34=>(aI (dw x31.2 x31.1 e32) (ai (x31.1 - 1))).bind fun e37=>co (dw (dw x31.2 x31.1 e32) (ai (x31.1 - 1)) e33) fun rw38:List Int=>self ((ai (x31.1 - 1)),rw38)) else (some (.inr x31.2))
def jY (az:((List Int)×Int×Int×Int×State)→Option (List Int))(ar:List Int)(aW:Int)(aY:Int)(bc:Int)(aE:State)(u30:Int×Int×(List Int)):(Int×(List Int))→Option ((List Int)⊕(List Int)):=aN (jv az ar aW aY bc aE u30)
theorem AK (az:((List Int)×Int×Int×Int×State)→Option (List Int))(ar:List Int)(aW:Int)(aY:Int)(bc:Int)(aE:State)(u30:Int×Int×(List Int)):∀a,Fin1 fun f=>jv az ar aW aY bc aE u30 f a:=by
 unfold jv
 repeat first|intro _|exact aX|exact bw|apply bB|apply bf|apply bg|apply bo|apply bC
theorem Gy (az:((List Int)×Int×Int×Int×State)→Option (List Int))(ar:List Int)(aW:Int)(aY:Int)(bc:Int)(aE:State)(u30:Int×Int×(List Int))(x:Int×(List Int)):jY az ar aW aY bc aE u30 x=jv az ar aW aY bc aE u30 (jY az ar aW aY bc aE u30) x:=bH (AK az ar aW aY bc aE u30) x
def kw (az:((List Int)×Int×Int×Int×State)→Option (List Int))(ar:List Int)(aW:Int)(aY:Int)(bc:Int)(aE:State)(self:(Int×Int)→Option ((List Int)⊕(Int×Int×Int×Int)))(x45:Int×Int):Option ((List Int)⊕(Int×Int×Int×Int)):=
 bif (decide (x45.1<x45.2)) then ((aI ar (ai ((ai ((ai ((IntKind.i64.wrap (d8 .u64 (IntKind.u64.wrap (ai (aW+bc))) 1))+aY)) - 1)) - (IntKind.i64.wrap (d8 .u64 (IntKind.u64.wrap (ai (x45.1+x45.2))) 1))))).bind fun e46=>(aI ar (IntKind.i64.wrap (d8 .u64 (IntKind.u64.wrap (ai (x45.1+x45.2))) 1))).bind fun e47=>(Be e46 e47 aE).bind fun r48=>co (bif (!(decide (r48<0))) then ((ai ((IntKind.i64.wrap (d8 .u64 (IntKind.u64.wrap (ai (x45.1+x45.2))) 1))+1)),x45.2) else (x45.1,(IntKind.i64.wrap (d8 .u64 (IntKind.u64.wrap (ai (x45.1+x45.2))) 1)))) fun u49:Int×Int=>self (u49.1,u49.2)) else (some (.inr (bc,(IntKind.i64.wrap (d8 .u64 (IntKind.u64.wrap (ai (aW+bc))) 1)),(ai ((IntKind.i64.wrap (d8 .u64 (IntKind.u64.wrap (ai (aW+bc))) 1))+aY)),x45.1)))
def rH (az:((List Int)×Int×Int×Int×State)→Option (List Int))(ar:List Int)(aW:Int)(aY:Int)(bc:Int)(aE:State): (Int×Int)→Option ((List Int)⊕(Int×Int×Int×Int)):=aN (kw az ar aW aY bc aE)
theorem AL (az:((List Int)×Int×Int×Int×State)→Option (List Int))(ar:List Int)(aW:Int)(aY:Int)(bc:Int)(aE:State): ∀a,Fin1 fun f=>kw az ar aW aY bc aE f a:=by
 unfold kw
 repeat first|intro _|exact aX|exact bw|apply bB|apply bf|apply bg|apply bo|apply bC
theorem Gz (az:((List Int)×Int×Int×Int×State)→Option (List Int))(ar:List Int)(aW:Int)(aY:Int)(bc:Int)(aE:State)(x:Int×Int):rH az ar aW aY bc aE x=kw az ar aW aY bc aE (rH az ar aW aY bc aE) x:=bH (AL az ar aW aY bc aE) x
def uz (az:((List Int)×Int×Int×Int×State)→Option (List Int))(ar:List Int)(aW:Int)(aY:Int)(bc:Int)(aE:State):Option (List Int):=
 bif ((ai (aY - aW))==1) then (be (ρ:=(List Int)) (pw az ar aW aY bc aE (aY,bc)) fun u11:Int×Int×(List Int)=>be (ρ:=(List Int)) (jX az ar aW aY bc aE u11 (u11.1,u11.2.2)) fun u23:(List Int)=>bif Nat.beq u23.length ar.length then (some u23) else none) else (bif ((ai (bc - aY))==1) then (be (ρ:=(List Int)) (px az ar aW aY bc aE (aW,aY)) fun u30:Int×Int×(List Int)=>be (ρ:=(List Int)) (jY az ar aW aY bc aE u30 (u30.1,u30.2.2)) fun u42:(List Int)=>bif Nat.beq u42.length ar.length then (some u42) else none) else (co (bif (decide (aY>(IntKind.i64.wrap (d8 .u64 (IntKind.u64.wrap (ai (aW+bc))) 1)))) then ((ai ((ai ((IntKind.i64.wrap (d8 .u64 (IntKind.u64.wrap (ai (aW+bc))) 1))+aY)) - bc)),(IntKind.i64.wrap (d8 .u64 (IntKind.u64.wrap (ai (aW+bc))) 1))) else (aW,aY)) fun u44:Int×Int=>be (ρ:=(List Int)) (rH az ar aW aY bc aE (u44.1,u44.2)) fun u50:Int×Int×Int×Int=>co (bif (decide (u50.2.2.2<aY)) then (decide (aY<(ai (u50.2.2.1 - u50.2.2.2)))) else false) fun u51:Bool=>be (ρ:=(List Int)) (bif u51 then ((xz ar u50.2.2.2 aY (ai (u50.2.2.1 - u50.2.2.2)) aE).bind fun r62=>bif Nat.beq r62.length ar.length then (some (.inr r62)) else none) else (some (.inr ar))) fun u52:(List Int)=>co (bif (decide (aW<u50.2.2.2)) then (decide (u50.2.2.2<u50.2.1)) else false) fun u53:Bool=>be (ρ:=(List Int)) (bif u53 then ((az (u52,aW,u50.2.2.2,u50.2.1,aE)).bind fun r60=>bif Nat.beq r60.length u52.length then (some (.inr r60)) else none) else (some (.inr u52))) fun u54:(List Int)=>co (bif (decide (u50.2.1<(ai (u50.2.2.1 - u50.2.2.2)))) then (decide ((ai (u50.2.2.1 - u50.2.2.2))<u50.1)) else false) fun u55:Bool=>be (ρ:=(List Int)) (bif u55 then ((az (u54,u50.2.1,(ai (u50.2.2.1 - u50.2.2.2)),u50.1,aE)).bind fun r58=>bif Nat.beq r58.length u54.length then (some (.inr r58)) else none) else (some (.inr u54))) fun u56:(List Int)=>bif Nat.beq u56.length ar.length then (some u56) else none))
def fI (az:((List Int)×Int×Int×Int×State)→Option (List Int))(x:(List Int)×Int×Int×Int×State):Option (List Int):=uz az x.1 x.2.1 x.2.2.1 x.2.2.2.1 x.2.2.2.2
def JB (ar:List Int)(aW:Int)(aY:Int)(bc:Int)(aE:State):Option (List Int):=aN fI (ar,aW,aY,bc,aE)
theorem Zj:∀x,Fin1 fun az=>fI az x:=by
 unfold fI uz
 repeat first|intro _|exact aX|exact bw|exact kh|exact mG|exact iY|exact kH|exact jz|exact jA|apply bB|apply bf|apply bg|apply bo|apply bC|apply rc|unfold pw|unfold js|unfold jX|unfold jt|unfold pw|unfold js|unfold jX|unfold jt|unfold px|unfold ju|unfold jY|unfold jv|unfold px|unfold ju|unfold jY|unfold jv|unfold rH|unfold kw
theorem acb (ar:List Int)(aW:Int)(aY:Int)(bc:Int)(aE:State):JB ar aW aY bc aE=uz (aN fI) ar aW aY bc aE:=bH Zj (ar,aW,aY,bc,aE)
def kv (b9:List Int)(n_7:Int)(cg:State)(self:(Int×Int×(List Int))→Option ((List Int)⊕(Int×Int×(List Int))))(x4:Int×Int×(List Int)):Option ((List Int)⊕(Int×Int×(List Int))):=
 bif (decide (x4.2.1≤n_7)) then ((rU x4.2.2 x4.1 x4.2.1 cg).bind fun r5=>bif Nat.beq r5.length x4.2.2.length then (self (x4.2.1,(ai (x4.2.1+20)),r5)) else none) else (some (.inr (n_7,x4.1,x4.2.2)))
def ut (b9:List Int)(n_7:Int)(cg:State): (Int×Int×(List Int))→Option ((List Int)⊕(Int×Int×(List Int))):=aN (kv b9 n_7 cg)
theorem AD (b9:List Int)(n_7:Int)(cg:State): ∀a,Fin1 fun f=>kv b9 n_7 cg f a:=by
 unfold kv
 repeat first|intro _|exact aX|exact bw|apply bB|apply bf|apply bg|apply bo|apply bC
theorem vH (b9:List Int)(n_7:Int)(cg:State)(x:Int×Int×(List Int)):ut b9 n_7 cg x=kv b9 n_7 cg (ut b9 n_7 cg) x:=bH (AD b9 n_7 cg) x
def nW (b9:List Int)(n_7:Int)(cg:State)(u7:Int×Int×(List Int))(x10:Int×(List Int))(self:(Int×Int×(List Int))→Option ((List Int)⊕(Int×(List Int))))(x11:Int×Int×(List Int)):Option ((List Int)⊕(Int×(List Int))):=
 bif (decide (x11.2.1≤u7.1)) then ((JB x11.2.2 x11.1 (ai (x11.1+x10.1)) x11.2.1 cg).bind fun r12=>bif Nat.beq r12.length x11.2.2.length then (self (x11.2.1,(ai (x11.2.1+(ai (2*x10.1)))),r12)) else none) else (some (.inr (x11.1,x11.2.2)))
def uw (b9:List Int)(n_7:Int)(cg:State)(u7:Int×Int×(List Int))(x10:Int×(List Int)):(Int×Int×(List Int))→Option ((List Int)⊕(Int×(List Int))):=aN (nW b9 n_7 cg u7 x10)
theorem AF (b9:List Int)(n_7:Int)(cg:State)(u7:Int×Int×(List Int))(x10:Int×(List Int)):∀a,Fin1 fun f=>nW b9 n_7 cg u7 x10 f a:=by
 unfold nW
 repeat first|intro _|exact aX|exact bw|apply bB|apply bf|apply bg|apply bo|apply bC
theorem RP (b9:List Int)(n_7:Int)(cg:State)(u7:Int×Int×(List Int))(x10:Int×(List Int))(x:Int×Int×(List Int)):uw b9 n_7 cg u7 x10 x=nW b9 n_7 cg u7 x10 (uw b9 n_7 cg u7 x10) x:=bH (AF b9 n_7 cg u7 x10) x
def jr (b9:List Int)(n_7:Int)(cg:State)(u7:Int×Int×(List Int))(self:(Int×(List Int))→Option ((List Int)⊕(List Int)))(x10:Int×(List Int)):Option ((List Int)⊕(List Int)):=
 bif (decide (x10.1<u7.1)) then (cf (ρ:=(List Int)) (uw b9 n_7 cg u7 x10 (0,(ai (2*x10.1)),x10.2)) fun u14:Int×(List Int)=>cf (ρ:=(List Int)) (bif (decide ((ai (u14.1+x10.1))<u7.1)) then ((JB u14.2 u14.1 (ai (u14.1+x10.1)) u7.1 cg).bind fun r16=>bif Nat.beq r16.length u14.2.length then (some (.inr r16)) else none) else (some (.inr u14.2))) fun u15:(List Int)=>self ((ai (x10.1*2)),u15)) else (some (.inr x10.2))
def uu (b9:List Int)(n_7:Int)(cg:State)(u7:Int×Int×(List Int)):(Int×(List Int))→Option ((List Int)⊕(List Int)):=aN (jr b9 n_7 cg u7)
theorem AE (b9:List Int)(n_7:Int)(cg:State)(u7:Int×Int×(List Int)):∀a,Fin1 fun f=>jr b9 n_7 cg u7 f a:=by
 unfold jr
 repeat first|intro _|exact aX|exact bw|apply bB|apply bf|apply bg|apply bo|apply bC
theorem qU (b9:List Int)(n_7:Int)(cg:State)(u7:Int×Int×(List Int))(x:Int×(List Int)):uu b9 n_7 cg u7 x=jr b9 n_7 cg u7 (uu b9 n_7 cg u7) x:=bH (AE b9 n_7 cg u7) x
def C6 (b9:List Int)(n_7:Int)(cg:State):Option (List Int):=
 be (ρ:=(List Int)) (ut b9 n_7 cg (0,20,b9)) fun u7:Int×Int×(List Int)=>(rU u7.2.2 u7.2.1 u7.1 cg).bind fun r8=>bif Nat.beq r8.length u7.2.2.length then (be (ρ:=(List Int)) (uu b9 n_7 cg u7 (20,r8)) fun u18:(List Int)=>bif Nat.beq u18.length b9.length then (some u18) else none) else none
def tw (x_3:List Int)(qa:State):Option (List Int):=
 (C6 x_3 (len x_3) qa).bind fun r3=>bif Nat.beq r3.length x_3.length then (bif Nat.beq r3.length x_3.length then (some r3) else none) else none
def nu (c_1:Contract)(s_2:State)(bO:Int)(self:(Int×(List Int))→Option ((List Int)⊕(List Int)))(x4:Int×(List Int)):Option ((List Int)⊕(List Int)):=
 bif (decide (x4.1<(len s_2.Duties))) then ((aI s_2.Duties x4.1).bind fun e5=>cf (ρ:=(List Int)) (bif (e5.Status==1) then ((aI c_1.Clauses e5.Clause).bind fun e9=>(QR e5 e9 bO).bind fun r10=>some (.inr r10)) else (some (.inr false))) fun u6:Bool=>cf (ρ:=(List Int)) (bif u6 then ((iC 8 x4.2 [x4.1]).bind fun a8=>some (.inr a8)) else (some (.inr x4.2))) fun u7:(List Int)=>self ((ai (x4.1+1)),u7)) else (some (.inr x4.2))
def qt (c_1:Contract)(s_2:State)(bO:Int): (Int×(List Int))→Option ((List Int)⊕(List Int)):=aN (nu c_1 s_2 bO)
theorem Ie (c_1:Contract)(s_2:State)(bO:Int): ∀a,Fin1 fun f=>nu c_1 s_2 bO f a:=by
 unfold nu
 repeat first|intro _|exact aX|exact bw|apply bB|apply bf|apply bg|apply bo|apply bC
theorem KK (c_1:Contract)(s_2:State)(bO:Int)(x:Int×(List Int)):qt c_1 s_2 bO x=nu c_1 s_2 bO (qt c_1 s_2 bO) x:=bH (Ie c_1 s_2 bO) x
def NO (c_1:Contract)(s_2:State)(bO:Int):Option (List Int):=
 be (ρ:=(List Int)) (qt c_1 s_2 bO (0,[])) fun u11:(List Int)=>(tw u11 s_2).bind fun r12=>bif Nat.beq r12.length u11.length then (some r12) else none
def QQ (c_1:Contract)(s_2:State)(bn:Int):Option (List Int):=
 (NO c_1 s_2 bn).bind fun r4=>some r4
def QO (d_1:Duty)(x_2:Clause)(a_3:Int):Option Bool:=
 some (x_2.Other==a_3)
def nt (c_1:Contract)(s_2:State)(bO:Int)(self:(Int×(List Int))→Option ((List Int)⊕(List Int)))(x4:Int×(List Int)):Option ((List Int)⊕(List Int)):=
 bif (decide (x4.1<(len s_2.Duties))) then ((aI s_2.Duties x4.1).bind fun e5=>cf (ρ:=(List Int)) (bif (e5.Status==1) then ((aI c_1.Clauses e5.Clause).bind fun e9=>(QO e5 e9 bO).bind fun r10=>some (.inr r10)) else (some (.inr false))) fun u6:Bool=>cf (ρ:=(List Int)) (bif u6 then ((iC 8 x4.2 [x4.1]).bind fun a8=>some (.inr a8)) else (some (.inr x4.2))) fun u7:(List Int)=>self ((ai (x4.1+1)),u7)) else (some (.inr x4.2))
def qs (c_1:Contract)(s_2:State)(bO:Int): (Int×(List Int))→Option ((List Int)⊕(List Int)):=aN (nt c_1 s_2 bO)
theorem Ib (c_1:Contract)(s_2:State)(bO:Int): ∀a,Fin1 fun f=>nt c_1 s_2 bO f a:=by
 unfold nt
 repeat first|intro _|exact aX|exact bw|apply bB|apply bf|apply bg|apply bo|apply bC
theorem KJ (c_1:Contract)(s_2:State)(bO:Int)(x:Int×(List Int)):qs c_1 s_2 bO x=nt c_1 s_2 bO (qs c_1 s_2 bO) x:=bH (Ib c_1 s_2 bO) x
def NN (c_1:Contract)(s_2:State)(bO:Int):Option (List Int):=
 be (ρ:=(List Int)) (qs c_1 s_2 bO (0,[])) fun u11:(List Int)=>(tw u11 s_2).bind fun r12=>bif Nat.beq r12.length u11.length then (some r12) else none
def QN (c_1:Contract)(s_2:State)(bn:Int):Option (List Int):=
 (NN c_1 s_2 bn).bind fun r4=>some r4
def QP (n_1:Int):Option ac:=
 (rA n_1).bind fun r2=>some r2
def vW (c_1:Contract)(s_2:State)(d6:List Int)(self:(Int×Int)→Option (Int⊕Int))(x4:Int×Int):Option (Int⊕Int):=
 bif (decide (x4.2<(len d6))) then ((aI d6 x4.2).bind fun e5=>(aI s_2.Duties e5).bind fun e6=>(aI c_1.Clauses e6.Clause).bind fun e7=>self ((ai (x4.1+e7.Amount)),(ai (x4.2+1)))) else (some (.inr x4.1))
def NK (c_1:Contract)(s_2:State)(d6:List Int): (Int×Int)→Option (Int⊕Int):=aN (vW c_1 s_2 d6)
theorem R6 (c_1:Contract)(s_2:State)(d6:List Int): ∀a,Fin1 fun f=>vW c_1 s_2 d6 f a:=by
 unfold vW
 repeat first|intro _|exact aX|exact bw|apply bB|apply bf|apply bg|apply bo|apply bC
def KG (c_1:Contract)(s_2:State)(d6:List Int):Option Int:=
 be (ρ:=Int) (NK c_1 s_2 d6 (0,0)) fun u8:Int=>some u8
def jB (n_1:Int):Option Int:=
 some (if (ai (0 - n_1))>n_1 then (ai (0 - n_1)) else n_1)
def lL (n_1:Int)(dY:Int)(self:ac→Option (ac⊕ac))(x4:ac):Option (ac⊕ac):=
 bif (decide ((len x4)<dY)) then ((fX ([48]:ac) x4).bind fun s5=>self s5) else (some (.inr x4))
def tT (n_1:Int)(dY:Int): ac→Option (ac⊕ac):=aN (lL n_1 dY)
theorem zX (n_1:Int)(dY:Int): ∀a,Fin1 fun f=>lL n_1 dY f a:=by
 unfold lL
 repeat first|intro _|exact aX|exact bw|apply bB|apply bf|apply bg|apply bo|apply bC
theorem EI (n_1:Int)(dY:Int)(x:ac):tT n_1 dY x=lL n_1 dY (tT n_1 dY) x:=bH (zX n_1 dY) x
def B0 (n_1:Int)(dY:Int):Option ac:=
 (rA n_1).bind fun r3=>be (ρ:=ac) (tT n_1 dY r3) fun u6:ac=>some u6
def H3 (x_1:Int):Option ac:=
 co (bif (decide (x_1<0)) then ([45]:ac) else ([]:ac)) fun u2:ac=>(jB x_1).bind fun r3=>(rA (ai (r3.tdiv 100))).bind fun r4=>(fX u2 r4).bind fun s5=>(fX s5 ([46]:ac)).bind fun s6=>(jB x_1).bind fun r7=>(B0 (r7.tmod 100) 2).bind fun r8=>(fX s6 r8).bind fun s9=>some s9
def KE (an:List Int)(a_2:Contract)(a_3:State):Option ac:=
 (QP (len an)).bind fun r4=>(fX r4 ([32,40]:ac)).bind fun s5=>(KG a_2 a_3 an).bind fun r6=>(H3 r6).bind fun r7=>(fX s5 r7).bind fun s8=>(fX s8 ([41]:ac)).bind fun s9=>some s9
def NI (c_1:Contract)(s_2:State)(bn:Int):Option (ac×Bool):=
 (BR c_1 s_2 [bn]).bind fun r4=>bif (!r4) then (some (([]:ac),false)) else ((QQ c_1 s_2 bn).bind fun r5=>(QN c_1 s_2 bn).bind fun r6=>(aI c_1.Parties bn).bind fun e7=>(fX e7 ([58,32,111,119,101,115,32]:ac)).bind fun s8=>(KE r5 c_1 s_2).bind fun r9=>(fX s8 r9).bind fun s10=>(fX s10 ([44,32,99,108,97,105,109,115,32]:ac)).bind fun s11=>(KE r6 c_1 s_2).bind fun r12=>(fX s11 r12).bind fun s13=>(fX s13 ([44,32,98,97,108,97,110,99,101,32]:ac)).bind fun s14=>(aI s_2.Balances bn).bind fun e15=>(H3 e15).bind fun r16=>(fX s14 r16).bind fun s17=>some (s17,true))
def nI (a_1:List ac)(b_2:List ac)(self:Int→Option (Bool⊕Unit))(x3:Int):Option (Bool⊕Unit):=
 bif (decide (x3<(len a_1))) then ((aI a_1 x3).bind fun e4=>(aI b_2 x3).bind fun e5=>bif (!(e4==e5)) then (some (.inl false)) else (self (ai (x3+1)))) else (some (.inr ()))
def tY (a_1:List ac)(b_2:List ac): Int→Option (Bool⊕Unit):=aN (nI a_1 b_2)
theorem Ac (a_1:List ac)(b_2:List ac): ∀a,Fin1 fun f=>nI a_1 b_2 f a:=by
 unfold nI
 repeat first|intro _|exact aX|exact bw|apply bB|apply bf|apply bg|apply bo|apply bC
theorem Ry (a_1:List ac)(b_2:List ac)(x:Int):tY a_1 b_2 x=nI a_1 b_2 (tY a_1 b_2) x:=bH (Ac a_1 b_2) x
def xf (a_1:List ac)(b_2:List ac):Option Bool:=
 bif ((len a_1) != (len b_2)) then (some false) else (be (ρ:=Bool) (tY a_1 b_2 0) fun u6:Unit=>some true)
def lM (bz:(Condition×Condition)→Option Bool)(a_1:List Condition)(b_2:List Condition)(self:Int→Option (Bool⊕Unit))(x3:Int):Option (Bool⊕Unit):=
 bif (decide (x3<(len a_1))) then ((aI a_1 x3).bind fun e4=>(aI b_2 x3).bind fun e5=>(bz (e4,e5)).bind fun r6=>bif (!r6) then (some (.inl false)) else (self (ai (x3+1)))) else (some (.inr ()))
def rC (bz:(Condition×Condition)→Option Bool)(a_1:List Condition)(b_2:List Condition): Int→Option (Bool⊕Unit):=aN (lM bz a_1 b_2)
theorem zZ (bz:(Condition×Condition)→Option Bool)(a_1:List Condition)(b_2:List Condition): ∀a,Fin1 fun f=>lM bz a_1 b_2 f a:=by
 unfold lM
 repeat first|intro _|exact aX|exact bw|apply bB|apply bf|apply bg|apply bo|apply bC
theorem Ru (bz:(Condition×Condition)→Option Bool)(a_1:List Condition)(b_2:List Condition)(x:Int):rC bz a_1 b_2 x=lM bz a_1 b_2 (rC bz a_1 b_2) x:=bH (zZ bz a_1 b_2) x
def xd (bz:(Condition×Condition)→Option Bool)(a_1:List Condition)(b_2:List Condition):Option Bool:=
 bif ((len a_1) != (len b_2)) then (some false) else (be (ρ:=Bool) (rC bz a_1 b_2 0) fun u7:Unit=>some true)
def tV (bz:(Condition×Condition)→Option Bool)(a_1:Condition)(b_2:Condition):Option Bool:=
 bif (a_1.Op != b_2.Op) then (some false) else (bif (!(a_1.Name==b_2.Name)) then (some false) else (bif (a_1.Day != b_2.Day) then (some false) else ((xd bz a_1.Parts b_2.Parts).bind fun r3=>bif (!r3) then (some false) else (some true))))
def qm (bz:(Condition×Condition)→Option Bool)(x:Condition×Condition):Option Bool:=tV bz x.1 x.2
def Ca (a_1:Condition)(b_2:Condition):Option Bool:=aN qm (a_1,b_2)
theorem Yt:∀x,Fin1 fun bz=>qm bz x:=by
 unfold qm tV
 repeat first|intro _|exact aX|exact bw|exact kh|exact mG|exact iY|exact kH|exact jz|exact jA|apply bB|apply bf|apply bg|apply bo|apply bC|apply rc|unfold xd|unfold rC|unfold lM
theorem ab5 (a_1:Condition)(b_2:Condition):Ca a_1 b_2=tV (aN qm) a_1 b_2:=bH Yt (a_1,b_2)
def xa (a_1:Clause)(b_2:Clause):Option Bool:=
 bif (!(a_1.Id==b_2.Id)) then (some false) else (bif (a_1.Kind != b_2.Kind) then (some false) else (bif (a_1.Party != b_2.Party) then (some false) else (bif (!(a_1.Action==b_2.Action)) then (some false) else (bif (a_1.Other != b_2.Other) then (some false) else (bif (a_1.Amount != b_2.Amount) then (some false) else ((Ca a_1.When b_2.When).bind fun r3=>bif (!r3) then (some false) else (bif (a_1.Within != b_2.Within) then (some false) else (bif (!(a_1.Repair==b_2.Repair)) then (some false) else (some true)))))))))
def nF (a_1:List Clause)(b_2:List Clause)(self:Int→Option (Bool⊕Unit))(x3:Int):Option (Bool⊕Unit):=
 bif (decide (x3<(len a_1))) then ((aI a_1 x3).bind fun e4=>(aI b_2 x3).bind fun e5=>(xa e4 e5).bind fun r6=>bif (!r6) then (some (.inl false)) else (self (ai (x3+1)))) else (some (.inr ()))
def tU (a_1:List Clause)(b_2:List Clause): Int→Option (Bool⊕Unit):=aN (nF a_1 b_2)
theorem zY (a_1:List Clause)(b_2:List Clause): ∀a,Fin1 fun f=>nF a_1 b_2 f a:=by
 unfold nF
 repeat first|intro _|exact aX|exact bw|apply bB|apply bf|apply bg|apply bo|apply bC
theorem Rt (a_1:List Clause)(b_2:List Clause)(x:Int):tU a_1 b_2 x=nF a_1 b_2 (tU a_1 b_2) x:=bH (zY a_1 b_2) x
def B8 (a_1:List Clause)(b_2:List Clause):Option Bool:=
 bif ((len a_1) != (len b_2)) then (some false) else (be (ρ:=Bool) (tU a_1 b_2 0) fun u7:Unit=>some true)
def Cd (a_1:Contract)(b_2:Contract):Option Bool:=
 (xf a_1.Parties b_2.Parties).bind fun r3=>bif (!r3) then (some false) else ((B8 a_1.Clauses b_2.Clauses).bind fun r4=>bif (!r4) then (some false) else (some true))
def xe (a_1:Duty)(b_2:Duty):Option Bool:=
 bif (a_1.Clause != b_2.Clause) then (some false) else (bif (a_1.Since != b_2.Since) then (some false) else (bif (a_1.Due != b_2.Due) then (some false) else (bif (a_1.Status != b_2.Status) then (some false) else (some true))))
def nG (a_1:List Duty)(b_2:List Duty)(self:Int→Option (Bool⊕Unit))(x3:Int):Option (Bool⊕Unit):=
 bif (decide (x3<(len a_1))) then ((aI a_1 x3).bind fun e4=>(aI b_2 x3).bind fun e5=>(xe e4 e5).bind fun r6=>bif (!r6) then (some (.inl false)) else (self (ai (x3+1)))) else (some (.inr ()))
def tW (a_1:List Duty)(b_2:List Duty): Int→Option (Bool⊕Unit):=aN (nG a_1 b_2)
theorem Aa (a_1:List Duty)(b_2:List Duty): ∀a,Fin1 fun f=>nG a_1 b_2 f a:=by
 unfold nG
 repeat first|intro _|exact aX|exact bw|apply bB|apply bf|apply bg|apply bo|apply bC
theorem Rv (a_1:List Duty)(b_2:List Duty)(x:Int):tW a_1 b_2 x=nG a_1 b_2 (tW a_1 b_2) x:=bH (Aa a_1 b_2) x
def Cg (a_1:List Duty)(b_2:List Duty):Option Bool:=
 bif ((len a_1) != (len b_2)) then (some false) else (be (ρ:=Bool) (tW a_1 b_2 0) fun u7:Unit=>some true)
def nH (a_1:List Int)(b_2:List Int)(self:Int→Option (Bool⊕Unit))(x3:Int):Option (Bool⊕Unit):=
 bif (decide (x3<(len a_1))) then ((aI a_1 x3).bind fun e4=>(aI b_2 x3).bind fun e5=>bif (e4 != e5) then (some (.inl false)) else (self (ai (x3+1)))) else (some (.inr ()))
def tX (a_1:List Int)(b_2:List Int): Int→Option (Bool⊕Unit):=aN (nH a_1 b_2)
theorem Ab (a_1:List Int)(b_2:List Int): ∀a,Fin1 fun f=>nH a_1 b_2 f a:=by
 unfold nH
 repeat first|intro _|exact aX|exact bw|apply bB|apply bf|apply bg|apply bo|apply bC
theorem Rx (a_1:List Int)(b_2:List Int)(x:Int):tX a_1 b_2 x=nH a_1 b_2 (tX a_1 b_2) x:=bH (Ab a_1 b_2) x
def Cj (a_1:List Int)(b_2:List Int):Option Bool:=
 bif ((len a_1) != (len b_2)) then (some false) else (be (ρ:=Bool) (tX a_1 b_2 0) fun u6:Unit=>some true)
def Cl (a_1:State)(b_2:State):Option Bool:=
 bif (a_1.Day != b_2.Day) then (some false) else ((xf a_1.Facts b_2.Facts).bind fun r3=>bif (!r3) then (some false) else ((Cg a_1.Duties b_2.Duties).bind fun r4=>bif (!r4) then (some false) else ((Cj a_1.Balances b_2.Balances).bind fun r5=>bif (!r5) then (some false) else (bif (!(a_1.Over==b_2.Over)) then (some false) else (some true)))))
def fe (kE:Contract)(kF:State)(gZ:Int):Option Bool:=
 (Ct kE 1048576).bind fun r4=>bif (decide (r4<0)) then (some true) else ((CA kF r4).bind fun r5=>bif (decide (r5<0)) then (some true) else ((vB kE).bind fun r6=>(vC kF).bind fun r7=>(Da r6 r7 gZ).bind fun r8=>(vB kE).bind fun r9=>(vC kF).bind fun r10=>(NI r9 r10 gZ).bind fun r11=>co (bif (!(r11.1==r8.1)) then true else (!(r11.2==r8.2))) fun u12:Bool=>bif u12 then (some false) else ((vB kE).bind fun r13=>(Cd r9 r13).bind fun r14=>bif (!r14) then (some false) else ((vC kF).bind fun r15=>(Cl r10 r15).bind fun r16=>bif (!r16) then (some false) else (some true)))))
end
end Go.Ln
