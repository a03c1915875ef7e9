/-
  What each function computes.
-/
import Derived.Test.YtobhcnmeflacnaaGreatDoorFnExactNextMomentLnC
set_option maxHeartbeats 4000000
set_option linter.unusedVariables false
set_option linter.unusedSimpArgs false
set_option maxRecDepth 100000
namespace Go.Ln
open Go
noncomputable section
structure Condition where
 Op:Int
 Name:ac
 Day:Int
 Parts:List Condition
mutual
def aB:Condition→V
 | ⟨a0,a1,a2,a3⟩=>.agg [I a0,str a1,I a2,.isl false (cS a3)]
def cS:List Condition→List V
 | []=>[]
 | x::xs=>aB x::cS xs
end
theorem nH:∀xs,cS xs=xs.map aB
 | []=>by simp[cS]
 | x::xs=>by simp[cS,nH xs]
def bg (x:Condition):V:=.agg [I x.Op,str x.Name,I x.Day,.isl false (x.Parts.map aB)]
abbrev ah (x:Condition):V:=.agg [I x.Op,str x.Name,I x.Day,.isl false (x.Parts.map aB)]
theorem cr (x:Condition):aB x=bg x:=by cases x;simp only[aB,bg,nH]
mutual
theorem eE:∀(a b:Condition),aB a=aB b→a=b
 | ⟨a0,a1,a2,a3⟩,⟨b0,b1,b2,b3⟩,h=>by
  simp only[aB] at h
  have k0:=V.agg.inj h
  obtain⟨h0,k1⟩:=List.cons.inj k0
  obtain rfl:=bZ a0 b0 h0
  obtain⟨h1,k2⟩:=List.cons.inj k1
  obtain rfl:=bH a1 b1 h1
  obtain⟨h2,k3⟩:=List.cons.inj k2
  obtain rfl:=bZ a2 b2 h2
  obtain⟨h3,k4⟩:=List.cons.inj k3
  have e3:cS a3=cS b3:=by simpa using h3
  obtain rfl:=nG a3 b3 e3
  rfl
theorem nG:∀(a b:List Condition),cS a=cS b→a=b
 | [],[],_=>rfl
 | [],_::_,h=>by simp[cS] at h
 | _::_,[],h=>by simp[cS] at h
 | x::xs,y::ys,h=>by
  simp only[cS,List.cons.injEq] at h
  rw[eE x y h.1,nG xs ys h.2]
end
theorem cz (a b:Condition)(h:bg a=bg b):a=b:=eE a b (by rw[cr,cr,h])
mutual
def aA:Condition→V
 | ⟨a0,a1,a2,a3⟩=>.agg [I a0,str a1,I a2,.usl 4 (cB a3)]
def cB:List Condition→List V
 | []=>[]
 | x::xs=>aA x::cB xs
end
theorem nK:∀xs,cB xs=xs.map aA
 | []=>by simp[cB]
 | x::xs=>by simp[cB,nK xs]
def qR (x:Condition):V:=.agg [I x.Op,str x.Name,I x.Day,.usl 4 (x.Parts.map aA)]
abbrev pf (x:Condition):V:=.agg [I x.Op,str x.Name,I x.Day,.usl 4 (x.Parts.map aA)]
theorem lr (x:Condition):aA x=qR x:=by cases x;simp only[aA,qR,nK]
mutual
theorem we:∀(a b:Condition),aA a=aA b→a=b
 | ⟨a0,a1,a2,a3⟩,⟨b0,b1,b2,b3⟩,h=>by
  simp only[aA] at h
  have k0:=V.agg.inj h
  obtain⟨h0,k1⟩:=List.cons.inj k0
  obtain rfl:=bZ a0 b0 h0
  obtain⟨h1,k2⟩:=List.cons.inj k1
  obtain rfl:=bH a1 b1 h1
  obtain⟨h2,k3⟩:=List.cons.inj k2
  obtain rfl:=bZ a2 b2 h2
  obtain⟨h3,k4⟩:=List.cons.inj k3
  have e3:cB a3=cB b3:=by simpa using h3
  obtain rfl:=nJ a3 b3 e3
  rfl
theorem nJ:∀(a b:List Condition),cB a=cB b→a=b
 | [],[],_=>rfl
 | [],_::_,h=>by simp[cB] at h
 | _::_,[],h=>by simp[cB] at h
 | x::xs,y::ys,h=>by
  simp only[cB,List.cons.injEq] at h
  rw[we x y h.1,nJ xs ys h.2]
end
mutual
theorem oU:∀x:Condition,dQ (aA x)=aB x
 | ⟨a0,a1,a2,a3⟩=>by simp[aA,aB,dQ,eM,str,nI]
theorem nI:∀xs:List Condition,eM (cB xs)=cS xs
 | []=>by simp[cB,cS,eM]
 | x::xs=>by simp[cB,cS,eM,oU x,nI xs]
end
mutual
theorem uX:∀x:Condition,cT (aA x)=false
 | ⟨a0,a1,a2,a3⟩=>by simp[aA,cT,dJ,str,na]
theorem na:∀xs:List Condition,dJ (cB xs)=false
 | []=>by simp[cB,dJ]
 | x::xs=>by simp[cB,dJ,uX x,na xs]
end
structure Clause where
 Id:ac
 Kind:Int
 Party:Int
 Action:ac
 Other:Int
 Amount:Int
 When:Condition
 Within:Int
 Repair:ac
def an (x:Clause):V:=.agg [str x.Id,I x.Kind,I x.Party,str x.Action,I x.Other,I x.Amount,I x.When.Op,str x.When.Name,I x.When.Day,.isl false (x.When.Parts.map aB),I x.Within,str x.Repair]
abbrev ar (x:Clause):V:=.agg [str x.Id,I x.Kind,I x.Party,str x.Action,I x.Other,I x.Amount,I x.When.Op,str x.When.Name,I x.When.Day,.isl false (x.When.Parts.map aB),I x.Within,str x.Repair]
theorem dh (a b:Clause)(h:an a=an b):a=b:=by
 obtain⟨p0,p1,p2,p3,p4,p5,⟨p6,p7,p8,p9⟩,p10,p11⟩:=a
 obtain⟨q0,q1,q2,q3,q4,q5,⟨q6,q7,q8,q9⟩,q10,q11⟩:=b
 replace h:=V.agg.inj h
 obtain⟨h0,h⟩:=List.cons.inj h
 obtain rfl:=bH p0 q0 h0
 obtain⟨h1,h⟩:=List.cons.inj h
 obtain rfl:=bZ p1 q1 h1
 obtain⟨h2,h⟩:=List.cons.inj h
 obtain rfl:=bZ p2 q2 h2
 obtain⟨h3,h⟩:=List.cons.inj h
 obtain rfl:=bH p3 q3 h3
 obtain⟨h4,h⟩:=List.cons.inj h
 obtain rfl:=bZ p4 q4 h4
 obtain⟨h5,h⟩:=List.cons.inj h
 obtain rfl:=bZ p5 q5 h5
 obtain⟨h6,h⟩:=List.cons.inj h
 obtain rfl:=bZ p6 q6 h6
 obtain⟨h7,h⟩:=List.cons.inj h
 obtain rfl:=bH p7 q7 h7
 obtain⟨h8,h⟩:=List.cons.inj h
 obtain rfl:=bZ p8 q8 h8
 obtain⟨h9,h⟩:=List.cons.inj h
 obtain rfl:=(bR eE) p9 q9 h9
 obtain⟨h10,h⟩:=List.cons.inj h
 obtain rfl:=bZ p10 q10 h10
 obtain⟨h11,h⟩:=List.cons.inj h
 obtain rfl:=bH p11 q11 h11
 rfl
def aO (x:Clause):V:=.agg [str x.Id,I x.Kind,I x.Party,str x.Action,I x.Other,I x.Amount,I x.When.Op,str x.When.Name,I x.When.Day,.usl 4 (x.When.Parts.map aA),I x.Within,str x.Repair]
abbrev tp (x:Clause):V:=.agg [str x.Id,I x.Kind,I x.Party,str x.Action,I x.Other,I x.Amount,I x.When.Op,str x.When.Name,I x.When.Day,.usl 4 (x.When.Parts.map aA),I x.Within,str x.Repair]
theorem fq (x:Clause):dQ (aO x)=an x:=aaa (jx rfl (jx rfl (jx rfl (jx rfl (jx rfl (jx rfl (jx rfl (jx rfl (jx rfl (jx (Vy (cw oU)) (jx rfl (jx rfl rfl))))))))))))
structure Contract where
 Parties:List ac
 Clauses:List Clause
def aM (x:Contract):V:=.agg [.isl false (x.Parties.map str),.isl false (x.Clauses.map an)]
abbrev aa (x:Contract):V:=.agg [.isl false (x.Parties.map str),.isl false (x.Clauses.map an)]
theorem ba (a b:Contract)(h:aM a=aM b):a=b:=by
 obtain⟨p0,p1⟩:=a
 obtain⟨q0,q1⟩:=b
 replace h:=V.agg.inj h
 obtain⟨h0,h⟩:=List.cons.inj h
 obtain rfl:=(bR bH) p0 q0 h0
 obtain⟨h1,h⟩:=List.cons.inj h
 obtain rfl:=(bR dh) p1 q1 h1
 rfl
structure Duty where
 Clause:Int
 Since:Int
 Due:Int
 Status:Int
def ae (x:Duty):V:=.agg [I x.Clause,I x.Since,I x.Due,I x.Status]
abbrev Zj (x:Duty):V:=.agg [I x.Clause,I x.Since,I x.Due,I x.Status]
theorem FW (x:Duty):(cells (ae x)).length=4∧(cells (ae x)).all eo=true:=⟨rfl,rfl⟩
theorem gN (x:Duty):dQ (ae x)=ae x:=rfl
theorem dW (a b:Duty)(h:ae a=ae b):a=b:=by
 obtain⟨p0,p1,p2,p3⟩:=a
 obtain⟨q0,q1,q2,q3⟩:=b
 replace h:=V.agg.inj h
 obtain⟨h0,h⟩:=List.cons.inj h
 obtain rfl:=bZ p0 q0 h0
 obtain⟨h1,h⟩:=List.cons.inj h
 obtain rfl:=bZ p1 q1 h1
 obtain⟨h2,h⟩:=List.cons.inj h
 obtain rfl:=bZ p2 q2 h2
 obtain⟨h3,h⟩:=List.cons.inj h
 obtain rfl:=bZ p3 q3 h3
 rfl
structure State where
 Day:Int
 Facts:List ac
 Duties:List Duty
 Balances:List Int
 Over:Bool
def bV (x:State):V:=.agg [I x.Day,.isl false (x.Facts.map str),.isl false (x.Duties.map ae),.isl false (x.Balances.map I),B x.Over]
abbrev ai (x:State):V:=.agg [I x.Day,.isl false (x.Facts.map str),.isl false (x.Duties.map ae),.isl false (x.Balances.map I),B x.Over]
theorem dj (a b:State)(h:bV a=bV b):a=b:=by
 obtain⟨p0,p1,p2,p3,p4⟩:=a
 obtain⟨q0,q1,q2,q3,q4⟩:=b
 replace h:=V.agg.inj h
 obtain⟨h0,h⟩:=List.cons.inj h
 obtain rfl:=bZ p0 q0 h0
 obtain⟨h1,h⟩:=List.cons.inj h
 obtain rfl:=(bR bH) p1 q1 h1
 obtain⟨h2,h⟩:=List.cons.inj h
 obtain rfl:=(bR dW) p2 q2 h2
 obtain⟨h3,h⟩:=List.cons.inj h
 obtain rfl:=(bR bZ) p3 q3 h3
 obtain⟨h4,h⟩:=List.cons.inj h
 obtain rfl:=Zk p4 q4 h4
 rfl
mutual
def nO:Condition→Prop
 | ⟨a0,a1,a2,a3⟩=>oT a0∧EP a1∧oT a2∧(a3.length≤maxLen∧IG a3)
def IG:List Condition→Prop
 | []=>True
 | x::xs=>nO x∧IG xs
end
theorem IH:∀xs,IG xs↔∀x∈xs,nO x
 | []=>by simp[IG]
 | x::xs=>by simp[IG,IH xs]
theorem IE (x:Condition):nO x↔oT x.Op∧EP x.Name∧oT x.Day∧rc nO x.Parts:=by cases x;simp only[nO,IH,rc]
def rd (x:Clause):Prop:=EP x.Id∧oT x.Kind∧oT x.Party∧EP x.Action∧oT x.Other∧oT x.Amount∧nO x.When∧oT x.Within∧EP x.Repair
def SZ (x:Contract):Prop:=(rc EP) x.Parties∧(rc rd) x.Clauses
def F3 (x:Duty):Prop:=oT x.Clause∧oT x.Since∧oT x.Due∧oT x.Status
def AY (x:State):Prop:=oT x.Day∧(rc EP) x.Facts∧(rc F3) x.Duties∧(rc oT) x.Balances∧okB x.Over
def l8 (a_1:List ac)(al:Int)(self:(Int×Int)→Option (Int⊕Int))(x3:Int×Int):Option (Int⊕Int):=
 bif (decide (x3.2<(len a_1))) then ((aN a_1 x3.2).bind fun e4=>bif (decide ((au (x3.1 - (len e4)))<0)) then (some (.inl (-1))) else (self ((au (x3.1 - (len e4))),(au (x3.2+1))))) else (some (.inr x3.1))
def rS (a_1:List ac)(al:Int): (Int×Int)→Option (Int⊕Int):=aF (l8 a_1 al)
theorem xy (a_1:List ac)(al:Int): ∀a,Fin1 fun f=>l8 a_1 al f a:=by
 unfold l8
 repeat first|intro _|exact aQ|exact bx|apply bA|apply be|apply bf|apply bp|apply bB
theorem MG (a_1:List ac)(al:Int)(x:Int×Int):rS a_1 al x=l8 a_1 al (rS a_1 al) x:=bE (xy a_1 al) x
def vi (a_1:List ac)(al:Int):Option Int:=
 bif (decide ((au (al - (len a_1)))<0)) then (some (-1)) else (aX (ρ:=Int) (rS a_1 al ((au (al - (len a_1))),0)) fun u5:Int=>some u5)
def jY (bh:(Condition×Int)→Option Int)(a_1:List Condition)(al:Int)(self:(Int×Int)→Option (Int⊕Int))(x3:Int×Int):Option (Int⊕Int):=
 bif (decide (x3.2<(len a_1))) then ((aN a_1 x3.2).bind fun e4=>(bh (e4,x3.1)).bind fun r5=>bif (decide (r5<0)) then (some (.inl (-1))) else (self (r5,(au (x3.2+1))))) else (some (.inr x3.1))
def pK (bh:(Condition×Int)→Option Int)(a_1:List Condition)(al:Int): (Int×Int)→Option (Int⊕Int):=aF (jY bh a_1 al)
theorem xw (bh:(Condition×Int)→Option Int)(a_1:List Condition)(al:Int): ∀a,Fin1 fun f=>jY bh a_1 al f a:=by
 unfold jY
 repeat first|intro _|exact aQ|exact bx|apply bA|apply be|apply bf|apply bp|apply bB
theorem MF (bh:(Condition×Int)→Option Int)(a_1:List Condition)(al:Int)(x:Int×Int):pK bh a_1 al x=jY bh a_1 al (pK bh a_1 al) x:=bE (xw bh a_1 al) x
def vh (bh:(Condition×Int)→Option Int)(a_1:List Condition)(al:Int):Option Int:=
 bif (decide ((au (al - (len a_1)))<0)) then (some (-1)) else (aX (ρ:=Int) (pK bh a_1 al ((au (al - (len a_1))),0)) fun u6:Int=>some u6)
def rR (bh:(Condition×Int)→Option Int)(a_1:Condition)(al:Int):Option Int:=
 bif (decide ((au (al - (len a_1.Name)))<0)) then (some (-1)) else ((vh bh a_1.Parts (au (al - (len a_1.Name)))).bind fun r3=>bif (decide (r3<0)) then (some (-1)) else (some r3))
def oK (bh:(Condition×Int)→Option Int)(x:Condition×Int):Option Int:=rR bh x.1 x.2
def ve (a_1:Condition)(al:Int):Option Int:=aF oK (a_1,al)
theorem SG:∀x,Fin1 fun bh=>oK bh x:=by
 unfold oK rR
 repeat first|intro _|exact aQ|exact bx|exact hP|exact jJ|exact gx|exact io|exact gH|exact gI|apply bA|apply be|apply bf|apply bp|apply bB|apply oz|unfold vh|unfold pK|unfold jY
theorem VH (a_1:Condition)(al:Int):ve a_1 al=rR (aF oK) a_1 al:=bE SG (a_1,al)
def tv (a_1:Clause)(al:Int):Option Int:=
 bif (decide ((au (al - (len a_1.Id)))<0)) then (some (-1)) else (bif (decide ((au ((au (al - (len a_1.Id))) - (len a_1.Action)))<0)) then (some (-1)) else ((ve a_1.When (au ((au (al - (len a_1.Id))) - (len a_1.Action)))).bind fun r3=>bif (decide (r3<0)) then (some (-1)) else (bif (decide ((au (r3 - (len a_1.Repair)))<0)) then (some (-1)) else (some (au (r3 - (len a_1.Repair)))))))
def l7 (a_1:List Clause)(al:Int)(self:(Int×Int)→Option (Int⊕Int))(x3:Int×Int):Option (Int⊕Int):=
 bif (decide (x3.2<(len a_1))) then ((aN a_1 x3.2).bind fun e4=>(tv e4 x3.1).bind fun r5=>bif (decide (r5<0)) then (some (.inl (-1))) else (self (r5,(au (x3.2+1))))) else (some (.inr x3.1))
def rQ (a_1:List Clause)(al:Int): (Int×Int)→Option (Int⊕Int):=aF (l7 a_1 al)
theorem xu (a_1:List Clause)(al:Int): ∀a,Fin1 fun f=>l7 a_1 al f a:=by
 unfold l7
 repeat first|intro _|exact aQ|exact bx|apply bA|apply be|apply bf|apply bp|apply bB
theorem ME (a_1:List Clause)(al:Int)(x:Int×Int):rQ a_1 al x=l7 a_1 al (rQ a_1 al) x:=bE (xu a_1 al) x
def zh (a_1:List Clause)(al:Int):Option Int:=
 bif (decide ((au (al - (len a_1)))<0)) then (some (-1)) else (aX (ρ:=Int) (rQ a_1 al ((au (al - (len a_1))),0)) fun u6:Int=>some u6)
def zl (a_1:Contract)(al:Int):Option Int:=
 (vi a_1.Parties al).bind fun r3=>bif (decide (r3<0)) then (some (-1)) else ((zh a_1.Clauses r3).bind fun r4=>bif (decide (r4<0)) then (some (-1)) else (some r4))
def zn (a_1:List Duty)(al:Int):Option Int:=
 bif (decide ((au (al - (len a_1)))<0)) then (some (-1)) else (some (au (al - (len a_1))))
def zp (a_1:List Int)(al:Int):Option Int:=
 bif (decide ((au (al - (len a_1)))<0)) then (some (-1)) else (some (au (al - (len a_1))))
def zr (a_1:State)(al:Int):Option Int:=
 (vi a_1.Facts al).bind fun r3=>bif (decide (r3<0)) then (some (-1)) else ((zn a_1.Duties r3).bind fun r4=>bif (decide (r4<0)) then (some (-1)) else ((zp a_1.Balances r4).bind fun r5=>bif (decide (r5<0)) then (some (-1)) else (some r5)))
def mc (a_1:List ac)(self:(Int×(List ac))→Option ((List ac)⊕(List ac)))(x3:Int×(List ac)):Option ((List ac)⊕(List ac)):=
 bif (decide (x3.1<(len a_1))) then ((aN a_1 x3.1).bind fun e4=>(aN x3.2 x3.1).bind fun e5=>self ((au (x3.1+1)),(fi x3.2 x3.1 e4))) else (some (.inr x3.2))
def rY (a_1:List ac): (Int×(List ac))→Option ((List ac)⊕(List ac)):=aF (mc a_1)
theorem xD (a_1:List ac): ∀a,Fin1 fun f=>mc a_1 f a:=by
 unfold mc
 repeat first|intro _|exact aQ|exact bx|apply bA|apply be|apply bf|apply bp|apply bB
theorem MM (a_1:List ac)(x:Int×(List ac)):rY a_1 x=mc a_1 (rY a_1) x:=bE (xD a_1) x
def vr (a_1:List ac):Option (List ac):=
 (qW 16 [] (len a_1)).bind fun m2=>aX (ρ:=(List ac)) (rY a_1 (0,m2)) fun u6:(List ac)=>some u6
def jZ (bi:Condition→Option Condition)(a_1:List Condition)(self:(Int×(List Condition))→Option ((List Condition)⊕(List Condition)))(x3:Int×(List Condition)):Option ((List Condition)⊕(List Condition)):=
 bif (decide (x3.1<(len a_1))) then ((aN a_1 x3.1).bind fun e4=>(bi e4).bind fun r5=>(aN x3.2 x3.1).bind fun e6=>self ((au (x3.1+1)),(fi x3.2 x3.1 r5))) else (some (.inr x3.2))
def pL (bi:Condition→Option Condition)(a_1:List Condition): (Int×(List Condition))→Option ((List Condition)⊕(List Condition)):=aF (jZ bi a_1)
theorem xA (bi:Condition→Option Condition)(a_1:List Condition): ∀a,Fin1 fun f=>jZ bi a_1 f a:=by
 unfold jZ
 repeat first|intro _|exact aQ|exact bx|apply bA|apply be|apply bf|apply bp|apply bB
theorem MI (bi:Condition→Option Condition)(a_1:List Condition)(x:Int×(List Condition)):pL bi a_1 x=jZ bi a_1 (pL bi a_1) x:=bE (xA bi a_1) x
def vm (bi:Condition→Option Condition)(a_1:List Condition):Option (List Condition):=
 (qW 56 (Condition.mk 0 [] 0 []) (len a_1)).bind fun m2=>aX (ρ:=(List Condition)) (pL bi a_1 (0,m2)) fun u7:(List Condition)=>some u7
def rU (bi:Condition→Option Condition)(a_1:Condition):Option Condition:=
 (vm bi a_1.Parts).bind fun r2=>some (Condition.mk a_1.Op a_1.Name a_1.Day r2)
def oL (bi:Condition→Option Condition)(x:Condition):Option Condition:=rU bi x
def zy (a_1:Condition):Option Condition:=aF oL a_1
theorem SQ:∀x,Fin1 fun bi=>oL bi x:=by
 unfold oL rU
 repeat first|intro _|exact aQ|exact bx|exact hP|exact jJ|exact gx|exact io|exact gH|exact gI|apply bA|apply be|apply bf|apply bp|apply bB|apply oz|unfold vm|unfold pL|unfold jZ
theorem VI (a_1:Condition):zy a_1=rU (aF oL) a_1:=bE SQ a_1
def vj (a_1:Clause):Option Clause:=
 (zy a_1.When).bind fun r2=>some (Clause.mk a_1.Id a_1.Kind a_1.Party a_1.Action a_1.Other a_1.Amount r2 a_1.Within a_1.Repair)
def l9 (a_1:List Clause)(self:(Int×(List Clause))→Option ((List Clause)⊕(List Clause)))(x3:Int×(List Clause)):Option ((List Clause)⊕(List Clause)):=
 bif (decide (x3.1<(len a_1))) then ((aN a_1 x3.1).bind fun e4=>(vj e4).bind fun r5=>(aN x3.2 x3.1).bind fun e6=>self ((au (x3.1+1)),(fi x3.2 x3.1 r5))) else (some (.inr x3.2))
def rT (a_1:List Clause): (Int×(List Clause))→Option ((List Clause)⊕(List Clause)):=aF (l9 a_1)
theorem xz (a_1:List Clause): ∀a,Fin1 fun f=>l9 a_1 f a:=by
 unfold l9
 repeat first|intro _|exact aQ|exact bx|apply bA|apply be|apply bf|apply bp|apply bB
theorem MH (a_1:List Clause)(x:Int×(List Clause)):rT a_1 x=l9 a_1 (rT a_1) x:=bE (xz a_1) x
def zw (a_1:List Clause):Option (List Clause):=
 (qW 144 (Clause.mk [] 0 0 [] 0 0 (Condition.mk 0 [] 0 []) 0 []) (len a_1)).bind fun m2=>aX (ρ:=(List Clause)) (rT a_1 (0,m2)) fun u7:(List Clause)=>some u7
def tz (a_1:Contract):Option Contract:=
 (vr a_1.Parties).bind fun r2=>(zw a_1.Clauses).bind fun r3=>some (Contract.mk r2 r3)
def vp (a_1:Duty):Option Duty:=
 some a_1
def ma (a_1:List Duty)(self:(Int×(List Duty))→Option ((List Duty)⊕(List Duty)))(x3:Int×(List Duty)):Option ((List Duty)⊕(List Duty)):=
 bif (decide (x3.1<(len a_1))) then ((aN a_1 x3.1).bind fun e4=>(vp e4).bind fun r5=>(aN x3.2 x3.1).bind fun e6=>self ((au (x3.1+1)),(fi x3.2 x3.1 r5))) else (some (.inr x3.2))
def rV (a_1:List Duty): (Int×(List Duty))→Option ((List Duty)⊕(List Duty)):=aF (ma a_1)
theorem xB (a_1:List Duty): ∀a,Fin1 fun f=>ma a_1 f a:=by
 unfold ma
 repeat first|intro _|exact aQ|exact bx|apply bA|apply be|apply bf|apply bp|apply bB
theorem MK (a_1:List Duty)(x:Int×(List Duty)):rV a_1 x=ma a_1 (rV a_1) x:=bE (xB a_1) x
def zD (a_1:List Duty):Option (List Duty):=
 (qW 32 (Duty.mk 0 0 0 0) (len a_1)).bind fun m2=>aX (ρ:=(List Duty)) (rV a_1 (0,m2)) fun u7:(List Duty)=>some u7
def mb (a_1:List Int)(self:(Int×(List Int))→Option ((List Int)⊕(List Int)))(x3:Int×(List Int)):Option ((List Int)⊕(List Int)):=
 bif (decide (x3.1<(len a_1))) then ((aN a_1 x3.1).bind fun e4=>(aN x3.2 x3.1).bind fun e5=>self ((au (x3.1+1)),(fi x3.2 x3.1 e4))) else (some (.inr x3.2))
def rX (a_1:List Int): (Int×(List Int))→Option ((List Int)⊕(List Int)):=aF (mb a_1)
theorem xC (a_1:List Int): ∀a,Fin1 fun f=>mb a_1 f a:=by
 unfold mb
 repeat first|intro _|exact aQ|exact bx|apply bA|apply be|apply bf|apply bp|apply bB
theorem ML (a_1:List Int)(x:Int×(List Int)):rX a_1 x=mb a_1 (rX a_1) x:=bE (xC a_1) x
def zF (a_1:List Int):Option (List Int):=
 (qW 8 0 (len a_1)).bind fun m2=>aX (ρ:=(List Int)) (rX a_1 (0,m2)) fun u6:(List Int)=>some u6
def tA (a_1:State):Option State:=
 (vr a_1.Facts).bind fun r2=>(zD a_1.Duties).bind fun r3=>(zF a_1.Balances).bind fun r4=>some (State.mk a_1.Day r2 r3 r4 a_1.Over)
def dS (x_1:Int)(a_2:Int)(b_3:Int):Option Bool:=
 cD (bif (decide (x_1≥a_2)) then (decide (x_1≤b_3)) else false) fun u4:Bool=>some u4
def vI (b_1:Int):Option Bool:=
 cD (bif (decide (b_1≥97)) then (cD (bif (decide (b_1≤122)) then true else (cD (bif (decide (b_1≥48)) then (decide (b_1≤57)) else false) fun u4:Bool=>u4)) fun u3:Bool=>u3) else (cD (bif (decide (b_1≥48)) then (decide (b_1≤57)) else false) fun u5:Bool=>u5)) fun u2:Bool=>some u2
def mn (s_1:ac)(self:Int→Option (Bool⊕Unit))(x4:Int):Option (Bool⊕Unit):=
 bif (decide (x4<(len s_1))) then ((aN s_1 x4).bind fun c5=>(vI (c5.toNat:Int)).bind fun r6=>bif (!r6) then (some (.inl false)) else (self (au (x4+1)))) else (some (.inr ()))
def su (s_1:ac): Int→Option (Bool⊕Unit):=aF (mn s_1)
theorem xV (s_1:ac): ∀a,Fin1 fun f=>mn s_1 f a:=by
 unfold mn
 repeat first|intro _|exact aQ|exact bx|apply bA|apply be|apply bf|apply bp|apply bB
theorem MV (s_1:ac)(x:Int):su s_1 x=mn s_1 (su s_1) x:=bE (xV s_1) x
def qa (s_1:ac):Option Bool:=
 (dS (len s_1) 1 8).bind fun r2=>aX (ρ:=Bool) (bif (!r2) then (some (.inr true)) else ((aN s_1 0).bind fun c16=>bU (ρ:=Bool) (bif (decide ((c16.toNat:Int)<97)) then (some (.inr true)) else ((aN s_1 0).bind fun c18=>some (.inr (decide ((c18.toNat:Int)>122))))) fun u17:Bool=>some (.inr u17))) fun u3:Bool=>bif u3 then (some false) else (aX (ρ:=Bool) (su s_1 0) fun u7:Unit=>cD (bif (s_1==([116,114,117,101]:ac)) then (s_1==([116,114,117,101]:ac)) else (cD (bif (s_1==([102,114,111,109]:ac)) then (s_1==([102,114,111,109]:ac)) else (cD (bif (s_1==([110,111,116]:ac)) then (s_1==([110,111,116]:ac)) else (cD (bif (s_1==([97,110,100]:ac)) then (s_1==([97,110,100]:ac)) else (cD (bif (s_1==([111,114]:ac)) then (s_1==([111,114]:ac)) else (cD (bif (s_1==([98,111,116,104]:ac)) then (s_1==([98,111,116,104]:ac)) else (cD (bif (s_1==([101,105,116,104,101,114]:ac)) then (s_1==([101,105,116,104,101,114]:ac)) else (cD (bif (s_1==([105,116]:ac)) then (s_1==([105,116]:ac)) else (s_1==([105,110]:ac))) fun u15:Bool=>u15)) fun u14:Bool=>u14)) fun u13:Bool=>u13)) fun u12:Bool=>u12)) fun u11:Bool=>u11)) fun u10:Bool=>u10)) fun u9:Bool=>u9)) fun u8:Bool=>bif u8 then (some false) else (some true))
def mj (ao:List ac)(eb:ac)(self:Int→Option (Bool⊕Unit))(x3:Int):Option (Bool⊕Unit):=
 bif (decide (x3<(len ao))) then ((aN ao x3).bind fun e4=>bif (e4==eb) then (some (.inl true)) else (self (au (x3+1)))) else (some (.inr ()))
def ss (ao:List ac)(eb:ac): Int→Option (Bool⊕Unit):=aF (mj ao eb)
theorem xU (ao:List ac)(eb:ac): ∀a,Fin1 fun f=>mj ao eb f a:=by
 unfold mj
 repeat first|intro _|exact aQ|exact bx|apply bA|apply be|apply bf|apply bp|apply bB
theorem MU (ao:List ac)(eb:ac)(x:Int):ss ao eb x=mj ao eb (ss ao eb) x:=bE (xU ao eb) x
def tG (ao:List ac)(eb:ac):Option Bool:=
 aX (ρ:=Bool) (ss ao eb 0) fun u5:Unit=>some false
def kr (c_1:Contract)(self:Int→Option (Bool⊕Unit))(x2:Int):Option (Bool⊕Unit):=
 bif (decide (x2<(len c_1.Parties))) then ((aN c_1.Parties x2).bind fun e3=>(qa e3).bind fun r4=>bU (ρ:=Bool) (bif (!r4) then (some (.inr true)) else ((pn c_1.Parties 0 x2).bind fun s6=>(aN c_1.Parties x2).bind fun e7=>(tG s6 e7).bind fun r8=>some (.inr r8))) fun u5:Bool=>bif u5 then (some (.inl false)) else (self (au (x2+1)))) else (some (.inr ()))
def sG (c_1:Contract): Int→Option (Bool⊕Unit):=aF (kr c_1)
theorem yf (c_1:Contract): ∀a,Fin1 fun f=>kr c_1 f a:=by
 unfold kr
 repeat first|intro _|exact aQ|exact bx|apply bA|apply be|apply bf|apply bp|apply bB
theorem DD (c_1:Contract)(x:Int):sG c_1 x=kr c_1 (sG c_1) x:=bE (yf c_1) x
def vP (c_1:Contract):Option Bool:=
 aX (ρ:=Bool) (sG c_1 0) fun u9:Unit=>(dS (len c_1.Parties) 2 4).bind fun r10=>some r10
def mq (c_1:Contract)(ek:ac)(self:Int→Option (Int⊕Unit))(x3:Int):Option (Int⊕Unit):=
 bif (decide (x3<(len c_1.Clauses))) then ((aN c_1.Clauses x3).bind fun e4=>bif (e4.Id==ek) then (some (.inl x3)) else (self (au (x3+1)))) else (some (.inr ()))
def sE (c_1:Contract)(ek:ac): Int→Option (Int⊕Unit):=aF (mq c_1 ek)
theorem yb (c_1:Contract)(ek:ac): ∀a,Fin1 fun f=>mq c_1 ek f a:=by
 unfold mq
 repeat first|intro _|exact aQ|exact bx|apply bA|apply be|apply bf|apply bp|apply bB
theorem MX (c_1:Contract)(ek:ac)(x:Int):sE c_1 ek x=mq c_1 ek (sE c_1 ek) x:=bE (yb c_1 ek) x
def tJ (c_1:Contract)(ek:ac):Option Int:=
 aX (ρ:=Int) (sE c_1 ek 0) fun u5:Unit=>some (-1)
def nP (ga:Int):Option Bool:=
 (dS ga 0 36524).bind fun r2=>some r2
def Af (c_1:Condition):Option Bool:=
 bif (c_1.Op==1) then (cD (bif ((len c_1.Parts)==0) then (cD (bif (c_1.Name==([]:ac)) then (c_1.Day==0) else false) fun u3:Bool=>u3) else false) fun u2:Bool=>some u2) else (bif (c_1.Op==2) then (aX (ρ:=Bool) (bif ((len c_1.Parts)==0) then ((qa c_1.Name).bind fun r5=>cD (bif r5 then (c_1.Day==0) else false) fun u6:Bool=>some (.inr u6)) else (some (.inr false))) fun u4:Bool=>some u4) else (bif (c_1.Op==3) then (aX (ρ:=Bool) (bif ((len c_1.Parts)==0) then (bU (ρ:=Bool) (bif (c_1.Name==([]:ac)) then ((nP c_1.Day).bind fun r9=>some (.inr r9)) else (some (.inr false))) fun u8:Bool=>some (.inr u8)) else (some (.inr false))) fun u7:Bool=>some u7) else (bif (c_1.Op==4) then (cD (bif ((len c_1.Parts)==1) then (cD (bif (c_1.Name==([]:ac)) then (c_1.Day==0) else false) fun u11:Bool=>u11) else false) fun u10:Bool=>some u10) else (cD (bif (c_1.Op==5) then (c_1.Op==5) else (c_1.Op==6)) fun u12:Bool=>bif u12 then (cD (bif ((len c_1.Parts)==2) then (cD (bif (c_1.Name==([]:ac)) then (c_1.Day==0) else false) fun u14:Bool=>u14) else false) fun u13:Bool=>some u13) else (some false)))))
def ki (b7:Condition→Option Bool)(c_1:Condition)(self:Int→Option (Bool⊕Unit))(x3:Int):Option (Bool⊕Unit):=
 bif (decide (x3<(len c_1.Parts))) then ((aN c_1.Parts x3).bind fun e4=>(b7 e4).bind fun r5=>bif (!r5) then (some (.inl false)) else (self (au (x3+1)))) else (some (.inr ()))
def pP (b7:Condition→Option Bool)(c_1:Condition): Int→Option (Bool⊕Unit):=aF (ki b7 c_1)
theorem xT (b7:Condition→Option Bool)(c_1:Condition): ∀a,Fin1 fun f=>ki b7 c_1 f a:=by
 unfold ki
 repeat first|intro _|exact aQ|exact bx|apply bA|apply be|apply bf|apply bp|apply bB
theorem MT (b7:Condition→Option Bool)(c_1:Condition)(x:Int):pP b7 c_1 x=ki b7 c_1 (pP b7 c_1) x:=bE (xT b7 c_1) x
def sr (b7:Condition→Option Bool)(c_1:Condition):Option Bool:=
 (Af c_1).bind fun r2=>bif (!r2) then (some false) else (aX (ρ:=Bool) (pP b7 c_1 0) fun u6:Unit=>some true)
def pZ (b7:Condition→Option Bool)(x:Condition):Option Bool:=sr b7 x
def Fu (c_1:Condition):Option Bool:=aF pZ c_1
theorem Tn:∀x,Fin1 fun b7=>pZ b7 x:=by
 unfold pZ sr
 repeat first|intro _|exact aQ|exact bx|exact hP|exact jJ|exact gx|exact io|exact gH|exact gI|apply bA|apply be|apply bf|apply bp|apply bB|apply oz|unfold pP|unfold ki
theorem VM (c_1:Condition):Fu c_1=sr (aF pZ) c_1:=bE Tn c_1
def i9 (b9:Condition→Option Int)(c_1:Condition)(self:(Int×Int)→Option (Int⊕Int))(x2:Int×Int):Option (Int⊕Int):=
 bif (decide (x2.2<(len c_1.Parts))) then ((aN c_1.Parts x2.2).bind fun e3=>(b9 e3).bind fun r4=>self ((au (x2.1+r4)),(au (x2.2+1)))) else (some (.inr x2.1))
def kR (b9:Condition→Option Int)(c_1:Condition): (Int×Int)→Option (Int⊕Int):=aF (i9 b9 c_1)
theorem xY (b9:Condition→Option Int)(c_1:Condition): ∀a,Fin1 fun f=>i9 b9 c_1 f a:=by
 unfold i9
 repeat first|intro _|exact aQ|exact bx|apply bA|apply be|apply bf|apply bp|apply bB
theorem Dl (b9:Condition→Option Int)(c_1:Condition)(x:Int×Int):kR b9 c_1 x=i9 b9 c_1 (kR b9 c_1) x:=bE (xY b9 c_1) x
def sB (b9:Condition→Option Int)(c_1:Condition):Option Int:=
 aX (ρ:=Int) (kR b9 c_1 (1,0)) fun u5:Int=>some u5
def kn (b9:Condition→Option Int)(x:Condition):Option Int:=sB b9 x
def I2 (c_1:Condition):Option Int:=aF kn c_1
theorem Tx:∀x,Fin1 fun b9=>kn b9 x:=by
 unfold kn sB
 repeat first|intro _|exact aQ|exact bx|exact hP|exact jJ|exact gx|exact io|exact gH|exact gI|apply bA|apply be|apply bf|apply bp|apply bB|apply oz|unfold kR|unfold i9
theorem VO (c_1:Condition):I2 c_1=sB (aF kn) c_1:=bE Tx c_1
def Aj (c_1:Condition):Option Bool:=
 (Fu c_1).bind fun r2=>aX (ρ:=Bool) (bif r2 then ((I2 c_1).bind fun r4=>some (.inr (decide (r4≤15)))) else (some (.inr false))) fun u3:Bool=>some u3
def Ao (c_1:Contract)(i_2:Int):Option Bool:=
 (aN c_1.Clauses i_2).bind fun e3=>(qa e3.Id).bind fun r4=>aX (ρ:=Bool) (bif (!r4) then (some (.inr true)) else ((qa e3.Action).bind fun r17=>bU (ρ:=Bool) (bif (!r17) then (some (.inr true)) else ((dS e3.Kind 1 4).bind fun r19=>bU (ρ:=Bool) (bif (!r19) then (some (.inr true)) else ((dS e3.Party 0 (au ((len c_1.Parties) - 1))).bind fun r21=>bU (ρ:=Bool) (bif (!r21) then (some (.inr true)) else ((dS e3.Other 0 (au ((len c_1.Parties) - 1))).bind fun r23=>bU (ρ:=Bool) (bif (!r23) then (some (.inr true)) else (bU (ρ:=Bool) (bif (e3.Party==e3.Other) then (some (.inr true)) else ((Aj e3.When).bind fun r26=>some (.inr (!r26)))) fun u25:Bool=>some (.inr u25))) fun u24:Bool=>some (.inr u24))) fun u22:Bool=>some (.inr u22))) fun u20:Bool=>some (.inr u20))) fun u18:Bool=>some (.inr u18))) fun u5:Bool=>bif u5 then (some false) else ((dS e3.Amount 0 1000000).bind fun r6=>aX (ρ:=Bool) (bif (!r6) then (some (.inr true)) else ((dS e3.Within 0 400).bind fun r13=>cD (bif (!r13) then true else (cD (bif (e3.Kind != 1) then (cD (bif (e3.Amount != 0) then true else (e3.Within != 0)) fun u16:Bool=>u16) else false) fun u15:Bool=>u15)) fun u14:Bool=>some (.inr u14))) fun u7:Bool=>bif u7 then (some false) else (bif (e3.Repair==([]:ac)) then (some true) else ((tJ c_1 e3.Repair).bind fun r8=>aX (ρ:=Bool) (bif (decide (r8≥0)) then (bU (ρ:=Bool) (bif (r8 != i_2) then ((aN c_1.Clauses r8).bind fun e11=>cD (bif (e11.Kind==1) then (e3.Kind != 3) else false) fun u12:Bool=>some (.inr u12)) else (some (.inr false))) fun u10:Bool=>some (.inr u10)) else (some (.inr false))) fun u9:Bool=>some u9)))
def km (l_8:List ac)(s_9:ac)(self:Int→Option ((List ac)⊕(ac×Int×(List ac))))(x3:Int):Option ((List ac)⊕(ac×Int×(List ac))):=
 bU (ρ:=(List ac)) (bif (decide (x3<(len l_8))) then ((aN l_8 x3).bind fun e5=>some (.inr (Op.bytesLess e5 s_9))) else (some (.inr false))) fun u4:Bool=>bif u4 then (self (au (x3+1))) else (some (.inr (s_9,x3,l_8)))
def sx (l_8:List ac)(s_9:ac): Int→Option ((List ac)⊕(ac×Int×(List ac))):=aF (km l_8 s_9)
theorem xX (l_8:List ac)(s_9:ac): ∀a,Fin1 fun f=>km l_8 s_9 f a:=by
 unfold km
 repeat first|intro _|exact aQ|exact bx|apply bA|apply be|apply bf|apply bp|apply bB
theorem Di (l_8:List ac)(s_9:ac)(x:Int):sx l_8 s_9 x=km l_8 s_9 (sx l_8 s_9) x:=bE (xX l_8 s_9) x
def vG (l_8:List ac)(s_9:ac):Option (List ac):=
 aX (ρ:=(List ac)) (sx l_8 s_9 0) fun u6:ac×Int×(List ac)=>aX (ρ:=(List ac)) (bif (decide (u6.2.1<(len u6.2.2))) then ((aN u6.2.2 u6.2.1).bind fun e15=>some (.inr (e15==u6.1))) else (some (.inr false))) fun u7:Bool=>bif u7 then (some u6.2.2) else ((f9 u6.2.2.length 0 u6.2.1).bind fun s8=>(fK u6.2.2 (0+Int.toNat (0)) (Int.toNat u6.2.1 - Int.toNat (0))).bind fun p9=>(ge 16 ([]:List ac) p9).bind fun a10=>(ge 16 a10 [u6.1]).bind fun a11=>(f9 u6.2.2.length u6.2.1 (len u6.2.2)).bind fun s12=>(fK u6.2.2 (0+Int.toNat u6.2.1) (Int.toNat (len u6.2.2) - Int.toNat u6.2.1)).bind fun p13=>(ge 16 a11 p13).bind fun a14=>some a14)
def i8 (b8:((List ac)×Condition)→Option (List ac))(l_4:List ac)(c_5:Condition)(self:(Int×(List ac))→Option ((List ac)⊕(List ac)))(x4:Int×(List ac)):Option ((List ac)⊕(List ac)):=
 bif (decide (x4.1<(len c_5.Parts))) then ((aN c_5.Parts x4.1).bind fun e5=>(b8 (x4.2,e5)).bind fun r6=>self ((au (x4.1+1)),r6)) else (some (.inr x4.2))
def kQ (b8:((List ac)×Condition)→Option (List ac))(l_4:List ac)(c_5:Condition): (Int×(List ac))→Option ((List ac)⊕(List ac)):=aF (i8 b8 l_4 c_5)
theorem xW (b8:((List ac)×Condition)→Option (List ac))(l_4:List ac)(c_5:Condition): ∀a,Fin1 fun f=>i8 b8 l_4 c_5 f a:=by
 unfold i8
 repeat first|intro _|exact aQ|exact bx|apply bA|apply be|apply bf|apply bp|apply bB
theorem Df (b8:((List ac)×Condition)→Option (List ac))(l_4:List ac)(c_5:Condition)(x:Int×(List ac)):kQ b8 l_4 c_5 x=i8 b8 l_4 c_5 (kQ b8 l_4 c_5) x:=bE (xW b8 l_4 c_5) x
def sv (b8:((List ac)×Condition)→Option (List ac))(l_4:List ac)(c_5:Condition):Option (List ac):=
 bif (c_5.Op==2) then ((vG l_4 c_5.Name).bind fun r3=>some r3) else (aX (ρ:=(List ac)) (kQ b8 l_4 c_5 (0,l_4)) fun u7:(List ac)=>some u7)
def kj (b8:((List ac)×Condition)→Option (List ac))(x:(List ac)×Condition):Option (List ac):=sv b8 x.1 x.2
def IZ (l_4:List ac)(c_5:Condition):Option (List ac):=aF kj (l_4,c_5)
theorem Tt:∀x,Fin1 fun b8=>kj b8 x:=by
 unfold kj sv
 repeat first|intro _|exact aQ|exact bx|exact hP|exact jJ|exact gx|exact io|exact gH|exact gI|apply bA|apply be|apply bf|apply bp|apply bB|apply oz|unfold kQ|unfold i8
theorem VN (l_4:List ac)(c_5:Condition):IZ l_4 c_5=sv (aF kj) l_4 c_5:=bE Tt (l_4,c_5)
def kq (c_1:Contract)(self:(Int×(List ac))→Option ((List ac)⊕(List ac)))(x2:Int×(List ac)):Option ((List ac)⊕(List ac)):=
 bif (decide (x2.1<(len c_1.Clauses))) then ((aN c_1.Clauses x2.1).bind fun e3=>(vG x2.2 e3.Action).bind fun r4=>(aN c_1.Clauses x2.1).bind fun e5=>(IZ r4 e5.When).bind fun r6=>self ((au (x2.1+1)),r6)) else (some (.inr x2.2))
def mr (c_1:Contract): (Int×(List ac))→Option ((List ac)⊕(List ac)):=aF (kq c_1)
theorem ye (c_1:Contract): ∀a,Fin1 fun f=>kq c_1 f a:=by
 unfold kq
 repeat first|intro _|exact aQ|exact bx|apply bA|apply be|apply bf|apply bp|apply bB
theorem Dz (c_1:Contract)(x:Int×(List ac)):mr c_1 x=kq c_1 (mr c_1) x:=bE (ye c_1) x
def pg (c_1:Contract):Option (List ac):=
 aX (ρ:=(List ac)) (mr c_1 (0,[])) fun u7:(List ac)=>some u7
def ko (c_1:Contract)(self:Int→Option (Bool⊕Unit))(x4:Int):Option (Bool⊕Unit):=
 bif (decide (x4<(len c_1.Clauses))) then ((aN c_1.Clauses x4).bind fun e5=>(tJ c_1 e5.Id).bind fun r6=>bU (ρ:=Bool) (bif (r6 != x4) then (some (.inr true)) else ((Ao c_1 x4).bind fun r8=>some (.inr (!r8)))) fun u7:Bool=>bif u7 then (some (.inl false)) else (self (au (x4+1)))) else (some (.inr ()))
def kS (c_1:Contract): Int→Option (Bool⊕Unit):=aF (ko c_1)
theorem yd (c_1:Contract): ∀a,Fin1 fun f=>ko c_1 f a:=by
 unfold ko
 repeat first|intro _|exact aQ|exact bx|apply bA|apply be|apply bf|apply bp|apply bB
theorem Dw (c_1:Contract)(x:Int):kS c_1 x=ko c_1 (kS c_1) x:=bE (yd c_1) x
def Au (c_1:Contract):Option Bool:=
 (dS (len c_1.Clauses) 1 12).bind fun r2=>aX (ρ:=Bool) (bif (!r2) then (some (.inr true)) else ((vP c_1).bind fun r11=>some (.inr (!r11)))) fun u3:Bool=>bif u3 then (some false) else (aX (ρ:=Bool) (kS c_1 0) fun u9:Unit=>(pg c_1).bind fun r10=>some (decide ((len r10)≤16)))
def i7 (ao:List ac)(self:Int→Option (Bool⊕Unit))(x2:Int):Option (Bool⊕Unit):=
 cD (bif (decide (x2<(len ao))) then (decide (x2≤16)) else false) fun u3:Bool=>bif u3 then ((aN ao x2).bind fun e4=>(qa e4).bind fun r5=>bU (ρ:=Bool) (bif (!r5) then (some (.inr true)) else (bU (ρ:=Bool) (bif (decide (x2>0)) then ((aN ao (au (x2 - 1))).bind fun e8=>(aN ao x2).bind fun e9=>some (.inr (!(Op.bytesLess e8 e9)))) else (some (.inr false))) fun u7:Bool=>some (.inr u7))) fun u6:Bool=>bif u6 then (some (.inl false)) else (self (au (x2+1)))) else (some (.inr ()))
def hJ (ao:List ac): Int→Option (Bool⊕Unit):=aF (i7 ao)
theorem xS (ao:List ac): ∀a,Fin1 fun f=>i7 ao f a:=by
 unfold i7
 repeat first|intro _|exact aQ|exact bx|apply bA|apply be|apply bf|apply bp|apply bB
theorem tF (ao:List ac)(x:Int):hJ ao x=i7 ao (hJ ao) x:=bE (xS ao) x
def Ac (ao:List ac):Option Bool:=
 aX (ρ:=Bool) (hJ ao 0) fun u10:Unit=>some (decide ((len ao)≤16))
def mp (c_1:Contract)(i_2:Int)(self:Int→Option (Bool⊕Unit))(x3:Int):Option (Bool⊕Unit):=
 bif (decide (x3<(len c_1.Clauses))) then ((aN c_1.Clauses x3).bind fun e4=>(aN c_1.Clauses i_2).bind fun e5=>bif (e4.Repair==e5.Id) then (some (.inl true)) else (self (au (x3+1)))) else (some (.inr ()))
def sD (c_1:Contract)(i_2:Int): Int→Option (Bool⊕Unit):=aF (mp c_1 i_2)
theorem xZ (c_1:Contract)(i_2:Int): ∀a,Fin1 fun f=>mp c_1 i_2 f a:=by
 unfold mp
 repeat first|intro _|exact aQ|exact bx|apply bA|apply be|apply bf|apply bp|apply bB
theorem MW (c_1:Contract)(i_2:Int)(x:Int):sD c_1 i_2 x=mp c_1 i_2 (sD c_1 i_2) x:=bE (xZ c_1 i_2) x
def Aq (c_1:Contract)(i_2:Int):Option Bool:=
 aX (ρ:=Bool) (sD c_1 i_2 0) fun u6:Unit=>some false
def ks (s_1:State)(i_2:Int)(self:(Int×Int)→Option (Int⊕Int))(x3:Int×Int):Option (Int⊕Int):=
 bif (decide (x3.2<(len s_1.Duties))) then ((aN s_1.Duties x3.2).bind fun e4=>cD (bif (e4.Clause==i_2) then (au (x3.1+1)) else x3.1) fun u5:Int=>self (u5,(au (x3.2+1)))) else (some (.inr x3.1))
def kT (s_1:State)(i_2:Int): (Int×Int)→Option (Int⊕Int):=aF (ks s_1 i_2)
theorem yg (s_1:State)(i_2:Int): ∀a,Fin1 fun f=>ks s_1 i_2 f a:=by
 unfold ks
 repeat first|intro _|exact aQ|exact bx|apply bA|apply be|apply bf|apply bp|apply bB
theorem DH (s_1:State)(i_2:Int)(x:Int×Int):kT s_1 i_2 x=ks s_1 i_2 (kT s_1 i_2) x:=bE (yg s_1 i_2) x
def Ay (s_1:State)(i_2:Int):Option Int:=
 aX (ρ:=Int) (kT s_1 i_2 (0,0)) fun u6:Int=>some u6
def AB (c_1:Contract)(s_2:State)(k_3:Int):Option Bool:=
 (aN s_2.Duties k_3).bind fun e4=>(dS e4.Clause 0 (au ((len c_1.Clauses) - 1))).bind fun r5=>aX (ρ:=Bool) (bif (!r5) then (some (.inr true)) else ((aN c_1.Clauses e4.Clause).bind fun e35=>bU (ρ:=Bool) (bif (e35.Kind != 1) then (some (.inr true)) else ((dS e4.Since 0 s_2.Day).bind fun r37=>bU (ρ:=Bool) (bif (!r37) then (some (.inr true)) else ((aN c_1.Clauses e4.Clause).bind fun e39=>bU (ρ:=Bool) (bif (e4.Due != (au (e4.Since+e39.Within))) then (some (.inr true)) else ((nP e4.Due).bind fun r41=>bU (ρ:=Bool) (bif (!r41) then (some (.inr true)) else ((dS e4.Status 1 4).bind fun r43=>some (.inr (!r43)))) fun u42:Bool=>some (.inr u42))) fun u40:Bool=>some (.inr u40))) fun u38:Bool=>some (.inr u38))) fun u36:Bool=>some (.inr u36))) fun u6:Bool=>bif u6 then (some false) else (aX (ρ:=Bool) (bif (decide (k_3>0)) then ((aN s_2.Duties (au (k_3 - 1))).bind fun e11=>cD (bif (decide (e11.Since>e4.Since)) then true else (cD (bif (e4.Status==1) then (cD (bif (decide (e4.Due<s_2.Day)) then true else (cD (bif s_2.Over then true else (cD (bif (e4.Status==3) then (cD (bif (decide (e4.Due≥s_2.Day)) then true else (cD (bif (e4.Status==4) then (!s_2.Over) else false) fun u18:Bool=>u18)) fun u17:Bool=>u17) else (cD (bif (e4.Status==4) then (!s_2.Over) else false) fun u19:Bool=>u19)) fun u16:Bool=>u16)) fun u15:Bool=>u15)) fun u14:Bool=>u14) else (cD (bif (e4.Status==3) then (cD (bif (decide (e4.Due≥s_2.Day)) then true else (cD (bif (e4.Status==4) then (!s_2.Over) else false) fun u22:Bool=>u22)) fun u21:Bool=>u21) else (cD (bif (e4.Status==4) then (!s_2.Over) else false) fun u23:Bool=>u23)) fun u20:Bool=>u20)) fun u13:Bool=>u13)) fun u12:Bool=>some (.inr u12)) else (cD (bif (e4.Status==1) then (cD (bif (decide (e4.Due<s_2.Day)) then true else (cD (bif s_2.Over then true else (cD (bif (e4.Status==3) then (cD (bif (decide (e4.Due≥s_2.Day)) then true else (cD (bif (e4.Status==4) then (!s_2.Over) else false) fun u29:Bool=>u29)) fun u28:Bool=>u28) else (cD (bif (e4.Status==4) then (!s_2.Over) else false) fun u30:Bool=>u30)) fun u27:Bool=>u27)) fun u26:Bool=>u26)) fun u25:Bool=>u25) else (cD (bif (e4.Status==3) then (cD (bif (decide (e4.Due≥s_2.Day)) then true else (cD (bif (e4.Status==4) then (!s_2.Over) else false) fun u33:Bool=>u33)) fun u32:Bool=>u32) else (cD (bif (e4.Status==4) then (!s_2.Over) else false) fun u34:Bool=>u34)) fun u31:Bool=>u31)) fun u24:Bool=>some (.inr u24))) fun u7:Bool=>bif u7 then (some false) else ((Aq c_1 e4.Clause).bind fun r8=>aX (ρ:=Bool) (bif r8 then (some (.inr true)) else ((Ay s_2 e4.Clause).bind fun r10=>some (.inr (r10==1)))) fun u9:Bool=>some u9))
def zY (x_1:Int):Option Bool:=
 (dS x_1 (-1000000000) 1000000000).bind fun r2=>some r2
def kg (ao:List Int)(self:(Int×Int)→Option (Int⊕Int))(x2:Int×Int):Option (Int⊕Int):=
 bif (decide (x2.2<(len ao))) then ((aN ao x2.2).bind fun e3=>self ((au (x2.1+e3)),(au (x2.2+1)))) else (some (.inr x2.1))
def jE (ao:List Int): (Int×Int)→Option (Int⊕Int):=aF (kg ao)
theorem xQ (ao:List Int): ∀a,Fin1 fun f=>kg ao f a:=by
 unfold kg
 repeat first|intro _|exact aQ|exact bx|apply bA|apply be|apply bf|apply bp|apply bB
theorem CZ (ao:List Int)(x:Int×Int):jE ao x=kg ao (jE ao) x:=bE (xQ ao) x
def tE (ao:List Int):Option Int:=
 aX (ρ:=Int) (jE ao (0,0)) fun u4:Int=>some u4
def mt (c_1:Contract)(s_2:State)(r5:(List ac))(self:Int→Option (Bool⊕Unit))(x6:Int):Option (Bool⊕Unit):=
 bif (decide (x6<(len s_2.Facts))) then ((aN s_2.Facts x6).bind fun e7=>(tG r5 e7).bind fun r8=>bif (!r8) then (some (.inl false)) else (self (au (x6+1)))) else (some (.inr ()))
def sI (c_1:Contract)(s_2:State)(r5:(List ac)):Int→Option (Bool⊕Unit):=aF (mt c_1 s_2 r5)
theorem yh (c_1:Contract)(s_2:State)(r5:(List ac)):∀a,Fin1 fun f=>mt c_1 s_2 r5 f a:=by
 unfold mt
 repeat first|intro _|exact aQ|exact bx|apply bA|apply be|apply bf|apply bp|apply bB
theorem MY (c_1:Contract)(s_2:State)(r5:(List ac))(x:Int):sI c_1 s_2 r5 x=mt c_1 s_2 r5 (sI c_1 s_2 r5) x:=bE (yh c_1 s_2 r5) x
def kt (c_1:Contract)(s_2:State)(self:Int→Option (Bool⊕Unit))(x10:Int):Option (Bool⊕Unit):=
 bif (decide (x10<(len s_2.Duties))) then ((AB c_1 s_2 x10).bind fun r11=>bif (!r11) then (some (.inl false)) else (self (au (x10+1)))) else (some (.inr ()))
def mu (c_1:Contract)(s_2:State): Int→Option (Bool⊕Unit):=aF (kt c_1 s_2)
theorem yi (c_1:Contract)(s_2:State): ∀a,Fin1 fun f=>kt c_1 s_2 f a:=by
 unfold kt
 repeat first|intro _|exact aQ|exact bx|apply bA|apply be|apply bf|apply bp|apply bB
theorem DM (c_1:Contract)(s_2:State)(x:Int):mu c_1 s_2 x=kt c_1 s_2 (mu c_1 s_2) x:=bE (yi c_1 s_2) x
def mw (c_1:Contract)(s_2:State)(self:Int→Option (Bool⊕Unit))(x13:Int):Option (Bool⊕Unit):=
 bif (decide (x13<(len s_2.Balances))) then ((aN s_2.Balances x13).bind fun e14=>(zY e14).bind fun r15=>bif (!r15) then (some (.inl false)) else (self (au (x13+1)))) else (some (.inr ()))
def sJ (c_1:Contract)(s_2:State): Int→Option (Bool⊕Unit):=aF (mw c_1 s_2)
theorem yj (c_1:Contract)(s_2:State): ∀a,Fin1 fun f=>mw c_1 s_2 f a:=by
 unfold mw
 repeat first|intro _|exact aQ|exact bx|apply bA|apply be|apply bf|apply bp|apply bB
theorem MZ (c_1:Contract)(s_2:State)(x:Int):sJ c_1 s_2 x=mw c_1 s_2 (sJ c_1 s_2) x:=bE (yj c_1 s_2) x
def tM (c_1:Contract)(s_2:State):Option Bool:=
 (Au c_1).bind fun r3=>aX (ρ:=Bool) (bif (!r3) then (some (.inr true)) else ((nP s_2.Day).bind fun r18=>bU (ρ:=Bool) (bif (!r18) then (some (.inr true)) else ((Ac s_2.Facts).bind fun r20=>cD (bif (!r20) then true else (cD (bif (decide ((len s_2.Duties)>24)) then true else ((len s_2.Balances) != (len c_1.Parties))) fun u22:Bool=>u22)) fun u21:Bool=>some (.inr u21))) fun u19:Bool=>some (.inr u19))) fun u4:Bool=>bif u4 then (some false) else ((pg c_1).bind fun r5=>aX (ρ:=Bool) (sI c_1 s_2 r5 0) fun u9:Unit=>aX (ρ:=Bool) (mu c_1 s_2 0) fun u12:Unit=>aX (ρ:=Bool) (sJ c_1 s_2 0) fun u16:Unit=>(tE s_2.Balances).bind fun r17=>some (r17==0))
def kf (l_8:List Int)(n_9:Int)(self:Int→Option ((List Int)⊕(Int×Int×(List Int))))(x3:Int):Option ((List Int)⊕(Int×Int×(List Int))):=
 bU (ρ:=(List Int)) (bif (decide (x3<(len l_8))) then ((aN l_8 x3).bind fun e5=>some (.inr (decide (e5<n_9)))) else (some (.inr false))) fun u4:Bool=>bif u4 then (self (au (x3+1))) else (some (.inr (n_9,x3,l_8)))
def si (l_8:List Int)(n_9:Int): Int→Option ((List Int)⊕(Int×Int×(List Int))):=aF (kf l_8 n_9)
theorem xP (l_8:List Int)(n_9:Int): ∀a,Fin1 fun f=>kf l_8 n_9 f a:=by
 unfold kf
 repeat first|intro _|exact aQ|exact bx|apply bA|apply be|apply bf|apply bp|apply bB
theorem CU (l_8:List Int)(n_9:Int)(x:Int):si l_8 n_9 x=kf l_8 n_9 (si l_8 n_9) x:=bE (xP l_8 n_9) x
def vv (l_8:List Int)(n_9:Int):Option (List Int):=
 aX (ρ:=(List Int)) (si l_8 n_9 0) fun u6:Int×Int×(List Int)=>aX (ρ:=(List Int)) (bif (decide (u6.2.1<(len u6.2.2))) then ((aN u6.2.2 u6.2.1).bind fun e15=>some (.inr (e15==u6.1))) else (some (.inr false))) fun u7:Bool=>bif u7 then (some u6.2.2) else ((f9 u6.2.2.length 0 u6.2.1).bind fun s8=>(fK u6.2.2 (0+Int.toNat (0)) (Int.toNat u6.2.1 - Int.toNat (0))).bind fun p9=>(ge 8 ([]:List Int) p9).bind fun a10=>(ge 8 a10 [u6.1]).bind fun a11=>(f9 u6.2.2.length u6.2.1 (len u6.2.2)).bind fun s12=>(fK u6.2.2 (0+Int.toNat u6.2.1) (Int.toNat (len u6.2.2) - Int.toNat u6.2.1)).bind fun p13=>(ge 8 a11 p13).bind fun a14=>some a14)
def i6 (b6:((List Int)×Condition)→Option (List Int))(l_4:List Int)(c_5:Condition)(self:(Int×(List Int))→Option ((List Int)⊕(List Int)))(x4:Int×(List Int)):Option ((List Int)⊕(List Int)):=
 bif (decide (x4.1<(len c_5.Parts))) then ((aN c_5.Parts x4.1).bind fun e5=>(b6 (x4.2,e5)).bind fun r6=>self ((au (x4.1+1)),r6)) else (some (.inr x4.2))
def kP (b6:((List Int)×Condition)→Option (List Int))(l_4:List Int)(c_5:Condition): (Int×(List Int))→Option ((List Int)⊕(List Int)):=aF (i6 b6 l_4 c_5)
theorem xR (b6:((List Int)×Condition)→Option (List Int))(l_4:List Int)(c_5:Condition): ∀a,Fin1 fun f=>i6 b6 l_4 c_5 f a:=by
 unfold i6
 repeat first|intro _|exact aQ|exact bx|apply bA|apply be|apply bf|apply bp|apply bB
theorem C2 (b6:((List Int)×Condition)→Option (List Int))(l_4:List Int)(c_5:Condition)(x:Int×(List Int)):kP b6 l_4 c_5 x=i6 b6 l_4 c_5 (kP b6 l_4 c_5) x:=bE (xR b6 l_4 c_5) x
def sk (b6:((List Int)×Condition)→Option (List Int))(l_4:List Int)(c_5:Condition):Option (List Int):=
 bif (c_5.Op==3) then ((vv l_4 c_5.Day).bind fun r3=>some r3) else (aX (ρ:=(List Int)) (kP b6 l_4 c_5 (0,l_4)) fun u7:(List Int)=>some u7)
def kh (b6:((List Int)×Condition)→Option (List Int))(x:(List Int)×Condition):Option (List Int):=sk b6 x.1 x.2
def IT (l_4:List Int)(c_5:Condition):Option (List Int):=aF kh (l_4,c_5)
theorem Tj:∀x,Fin1 fun b6=>kh b6 x:=by
 unfold kh sk
 repeat first|intro _|exact aQ|exact bx|exact hP|exact jJ|exact gx|exact io|exact gH|exact gI|apply bA|apply be|apply bf|apply bp|apply bB|apply oz|unfold kP|unfold i6
theorem VL (l_4:List Int)(c_5:Condition):IT l_4 c_5=sk (aF kh) l_4 c_5:=bE Tj (l_4,c_5)
def iZ (c_1:Contract)(s_2:State)(self:(Int×(List Int))→Option (Int⊕(List Int)))(x3:Int×(List Int)):Option (Int⊕(List Int)):=
 bif (decide (x3.1<(len s_2.Duties))) then ((aN s_2.Duties x3.1).bind fun e4=>bU (ρ:=Int) (bif (e4.Status==1) then ((aN s_2.Duties x3.1).bind fun e6=>(vv x3.2 (au (e6.Due+1))).bind fun r7=>some (.inr r7)) else (some (.inr x3.2))) fun u5:(List Int)=>self ((au (x3.1+1)),u5)) else (some (.inr x3.2))
def kO (c_1:Contract)(s_2:State): (Int×(List Int))→Option (Int⊕(List Int)):=aF (iZ c_1 s_2)
theorem xM (c_1:Contract)(s_2:State): ∀a,Fin1 fun f=>iZ c_1 s_2 f a:=by
 unfold iZ
 repeat first|intro _|exact aQ|exact bx|apply bA|apply be|apply bf|apply bp|apply bB
theorem tC (c_1:Contract)(s_2:State)(x:Int×(List Int)):kO c_1 s_2 x=iZ c_1 s_2 (kO c_1 s_2) x:=bE (xM c_1 s_2) x
def kd (c_1:Contract)(s_2:State)(self:(Int×(List Int))→Option (Int⊕(List Int)))(x9:Int×(List Int)):Option (Int⊕(List Int)):=
 bif (decide (x9.1<(len c_1.Clauses))) then ((aN c_1.Clauses x9.1).bind fun e10=>(IT x9.2 e10.When).bind fun r11=>self ((au (x9.1+1)),r11)) else (some (.inr x9.2))
def mi (c_1:Contract)(s_2:State): (Int×(List Int))→Option (Int⊕(List Int)):=aF (kd c_1 s_2)
theorem xN (c_1:Contract)(s_2:State): ∀a,Fin1 fun f=>kd c_1 s_2 f a:=by
 unfold kd
 repeat first|intro _|exact aQ|exact bx|apply bA|apply be|apply bf|apply bp|apply bB
theorem CQ (c_1:Contract)(s_2:State)(x:Int×(List Int)):mi c_1 s_2 x=kd c_1 s_2 (mi c_1 s_2) x:=bE (xN c_1 s_2) x
def ke (c_1:Contract)(s_2:State)(u12:(List Int))(self:Int→Option (Int⊕Unit))(x13:Int):Option (Int⊕Unit):=
 bif (decide (x13<(len u12))) then ((aN u12 x13).bind fun e14=>bU (ρ:=Int) (bif (decide (e14>s_2.Day)) then ((aN u12 x13).bind fun e17=>(nP e17).bind fun r18=>some (.inr r18)) else (some (.inr false))) fun u15:Bool=>bif u15 then ((aN u12 x13).bind fun e16=>some (.inl e16)) else (self (au (x13+1)))) else (some (.inr ()))
def iD (c_1:Contract)(s_2:State)(u12:(List Int)):Int→Option (Int⊕Unit):=aF (ke c_1 s_2 u12)
theorem xO (c_1:Contract)(s_2:State)(u12:(List Int)):∀a,Fin1 fun f=>ke c_1 s_2 u12 f a:=by
 unfold ke
 repeat first|intro _|exact aQ|exact bx|apply bA|apply be|apply bf|apply bp|apply bB
theorem CR (c_1:Contract)(s_2:State)(u12:(List Int))(x:Int):iD c_1 s_2 u12 x=ke c_1 s_2 u12 (iD c_1 s_2 u12) x:=bE (xO c_1 s_2 u12) x
def Fr (c_1:Contract)(s_2:State):Option Int:=
 bif s_2.Over then (some (-1)) else (aX (ρ:=Int) (kO c_1 s_2 (0,[])) fun u8:(List Int)=>aX (ρ:=Int) (mi c_1 s_2 (0,u8)) fun u12:(List Int)=>aX (ρ:=Int) (iD c_1 s_2 u12 0) fun u19:Unit=>some (-1))
def zV (c_1:Contract)(s_2:State):Option (Int×Bool):=
 (tM c_1 s_2).bind fun r3=>bif (!r3) then (some (0,false)) else ((Fr c_1 s_2).bind fun r4=>some (r4,true))
def ii (n_1:Int)(nm:Int)(kC:Int):Option Bool:=
 cD (bif (decide (n_1≥nm)) then (decide (n_1≤kC)) else false) fun u4:Bool=>some u4
def Io (s_1:ac)(c_2:Int):Option Int:=
 (qC s_1 c_2).bind fun r3=>some r3
def Ik (s_1:ac)(aV:ac):Option Int:=
 cD (bif ((len aV)==0) then true else (aV==s_1)) fun u3:Bool=>bif u3 then (some 0) else (bif ((len aV)==1) then ((aN aV 0).bind fun c4=>(Io s_1 (c4.toNat:Int)).bind fun r5=>some r5) else (bif (decide ((len aV)≥(len s_1))) then (some (-1)) else none))
def Fx (s_1:ac)(aV:ac):Option Int:=
 (Ik s_1 aV).bind fun r3=>some r3
def qK (s_1:ac)(aV:ac)(self:(ac×Int)→Option (Int⊕Unit))(x5:ac×Int):Option (Int⊕Unit):=
 (Fx x5.1 aV).bind fun r6=>bif (r6==(-1)) then (some (.inl x5.2)) else ((pn x5.1 (au (r6+(len aV))) (len x5.1)).bind fun s7=>self (s7,(au (x5.2+1))))
def LX (s_1:ac)(aV:ac): (ac×Int)→Option (Int⊕Unit):=aF (qK s_1 aV)
theorem Lq (s_1:ac)(aV:ac): ∀a,Fin1 fun f=>qK s_1 aV f a:=by
 unfold qK
 repeat first|intro _|exact aQ|exact bx|apply bA|apply be|apply bf|apply bp|apply bB
def Jb (s_1:ac)(aV:ac):Option Int:=
 bif ((len aV)==0) then none else (bif ((len aV)==1) then ((aN aV 0).bind fun c3=>(wG s_1 (c3.toNat:Int)).bind fun r4=>some r4) else (aX (ρ:=Int) (LX s_1 aV (s_1,0)) fun u8:Unit=>none))
def qL (s_1:ac)(dt:ac)(cO:Int)(n_4:Int)(u5:Int)(self:(ac×Int×(List ac))→Option ((List ac)⊕(ac×Int×(List ac))))(x7:ac×Int×(List ac)):Option ((List ac)⊕(ac×Int×(List ac))):=
 bif (decide (x7.2.1<(au ((if (au ((len s_1)+1))<u5 then (au ((len s_1)+1)) else u5) - 1)))) then ((Fx x7.1 dt).bind fun r8=>bif (decide (r8<0)) then (some (.inr (x7.1,x7.2.1,x7.2.2))) else ((pn x7.1 0 (au (r8+cO))).bind fun s9=>(aN x7.2.2 x7.2.1).bind fun e10=>(pn x7.1 (au (r8+(len dt))) (len x7.1)).bind fun s11=>self (s11,(au (x7.2.1+1)),(fi x7.2.2 x7.2.1 s9)))) else (some (.inr (x7.1,x7.2.1,x7.2.2)))
def wP (s_1:ac)(dt:ac)(cO:Int)(n_4:Int)(u5:Int):(ac×Int×(List ac))→Option ((List ac)⊕(ac×Int×(List ac))):=aF (qL s_1 dt cO n_4 u5)
theorem yk (s_1:ac)(dt:ac)(cO:Int)(n_4:Int)(u5:Int):∀a,Fin1 fun f=>qL s_1 dt cO n_4 u5 f a:=by
 unfold qL
 repeat first|intro _|exact aQ|exact bx|apply bA|apply be|apply bf|apply bp|apply bB
def Jd (s_1:ac)(dt:ac)(cO:Int)(n_4:Int):Option (List ac):=
 bif (n_4==0) then (some []) else (bif (dt==([]:ac)) then none else (aX (ρ:=(List ac)) (bif (decide (n_4<0)) then ((Jb s_1 dt).bind fun r16=>some (.inr (au (r16+1)))) else (some (.inr n_4))) fun u5:Int=>(qW 16 [] (if (au ((len s_1)+1))<u5 then (au ((len s_1)+1)) else u5)).bind fun m6=>aX (ρ:=(List ac)) (wP s_1 dt cO n_4 u5 (s_1,0,m6)) fun u12:ac×Int×(List ac)=>(aN u12.2.2 u12.2.1).bind fun e13=>(f9 (fi u12.2.2 u12.2.1 u12.1).length 0 (au (u12.2.1+1))).bind fun s14=>(fK (fi u12.2.2 u12.2.1 u12.1) (0+Int.toNat (0)) (Int.toNat (au (u12.2.1+1)) - Int.toNat (0))).bind fun p15=>some p15))
def AF (s_1:ac)(dt:ac):Option (List ac):=
 (Jd s_1 dt 0 (-1)).bind fun r3=>some r3
def kc (s_1:List ac)(v_2:ac)(self:Int→Option (Int⊕Unit))(x3:Int):Option (Int⊕Unit):=
 bif (decide (x3<(len s_1))) then ((aN s_1 x3).bind fun e4=>bif (v_2==e4) then (some (.inl x3)) else (self (au (x3+1)))) else (some (.inr ()))
def pO (s_1:List ac)(v_2:ac): Int→Option (Int⊕Unit):=aF (kc s_1 v_2)
theorem xL (s_1:List ac)(v_2:ac): ∀a,Fin1 fun f=>kc s_1 v_2 f a:=by
 unfold kc
 repeat first|intro _|exact aQ|exact bx|apply bA|apply be|apply bf|apply bp|apply bB
theorem CK (s_1:List ac)(v_2:ac)(x:Int):pO s_1 v_2 x=kc s_1 v_2 (pO s_1 v_2) x:=bE (xL s_1 v_2) x
def zT (s_1:List ac)(v_2:ac):Option Int:=
 aX (ρ:=Int) (pO s_1 v_2 0) fun u5:Unit=>some (-1)
def pV (s_1:List ac)(v_2:ac):Option Bool:=
 (zT s_1 v_2).bind fun r3=>some (decide (r3≥0))
def nN (s_1:ac)(self:Int→Option (Bool⊕Unit))(x4:Int):Option (Bool⊕Unit):=
 bif (decide (x4<(len s_1))) then ((aN s_1 x4).bind fun c5=>cD (bif (decide ((c5.toNat:Int)<97)) then (cD (bif (decide ((c5.toNat:Int)<48)) then true else (decide ((c5.toNat:Int)>57))) fun u7:Bool=>u7) else (cD (bif (decide ((c5.toNat:Int)>122)) then (cD (bif (decide ((c5.toNat:Int)<48)) then true else (decide ((c5.toNat:Int)>57))) fun u9:Bool=>u9) else false) fun u8:Bool=>u8)) fun u6:Bool=>bif u6 then (some (.inl false)) else (self (au (x4+1)))) else (some (.inr ()))
def vn (s_1:ac): Int→Option (Bool⊕Unit):=aF (nN s_1)
theorem B3 (s_1:ac): ∀a,Fin1 fun f=>nN s_1 f a:=by
 unfold nN
 repeat first|intro _|exact aQ|exact bx|apply bA|apply be|apply bf|apply bp|apply bB
theorem Po (s_1:ac)(x:Int):vn s_1 x=nN s_1 (vn s_1) x:=bE (B3 s_1) x
def uL (s_1:ac):Option Bool:=
 (ii (len s_1) 1 8).bind fun r2=>aX (ρ:=Bool) (bif (!r2) then (some (.inr true)) else ((aN s_1 0).bind fun c13=>bU (ρ:=Bool) (bif (decide ((c13.toNat:Int)<97)) then (some (.inr true)) else ((aN s_1 0).bind fun c15=>some (.inr (decide ((c15.toNat:Int)>122))))) fun u14:Bool=>some (.inr u14))) fun u3:Bool=>bif u3 then (some false) else (aX (ρ:=Bool) (vn s_1 0) fun u10:Unit=>(AF ([116,114,117,101,32,102,114,111,109,32,110,111,116,32,97,110,100,32,111,114,32,98,111,116,104,32,101,105,116,104,101,114,32,105,116,32,105,110]:ac) ([32]:ac)).bind fun r11=>(pV r11 s_1).bind fun r12=>some (!r12))
def lN (ao:List ac)(self:Int→Option (Bool⊕Unit))(x2:Int):Option (Bool⊕Unit):=
 bif (decide (x2<(len ao))) then ((aN ao x2).bind fun e3=>(uL e3).bind fun r4=>bU (ρ:=Bool) (bif (!r4) then (some (.inr true)) else ((pn ao 0 x2).bind fun s6=>(pV s6 e3).bind fun r7=>some (.inr r7))) fun u5:Bool=>bif u5 then (some (.inl false)) else (self (au (x2+1)))) else (some (.inr ()))
def vS (ao:List ac): Int→Option (Bool⊕Unit):=aF (lN ao)
theorem D6 (ao:List ac): ∀a,Fin1 fun f=>lN ao f a:=by
 unfold lN
 repeat first|intro _|exact aQ|exact bx|apply bA|apply be|apply bf|apply bp|apply bB
theorem Gs (ao:List ac)(x:Int):vS ao x=lN ao (vS ao) x:=bE (D6 ao) x
def Jg (ao:List ac):Option Bool:=
 aX (ρ:=Bool) (vS ao 0) fun u8:Unit=>(ii (len ao) 2 4).bind fun r9=>some r9
def Q6 (x_1:Clause)(a_2:ac):Option Bool:=
 some (x_1.Id==a_2)
def md (s_1:List Clause)(f_2:ac)(self:Int→Option (Int⊕Unit))(x3:Int):Option (Int⊕Unit):=
 bif (decide (x3<(len s_1))) then ((aN s_1 x3).bind fun e4=>(Q6 e4 f_2).bind fun r5=>bif r5 then (some (.inl x3)) else (self (au (x3+1)))) else (some (.inr ()))
def rZ (s_1:List Clause)(f_2:ac): Int→Option (Int⊕Unit):=aF (md s_1 f_2)
theorem xG (s_1:List Clause)(f_2:ac): ∀a,Fin1 fun f=>md s_1 f_2 f a:=by
 unfold md
 repeat first|intro _|exact aQ|exact bx|apply bA|apply be|apply bf|apply bp|apply bB
theorem MN (s_1:List Clause)(f_2:ac)(x:Int):rZ s_1 f_2 x=md s_1 f_2 (rZ s_1 f_2) x:=bE (xG s_1 f_2) x
def Fm (s_1:List Clause)(f_2:ac):Option Int:=
 aX (ρ:=Int) (rZ s_1 f_2 0) fun u6:Unit=>some (-1)
def D7 (c_1:Contract)(ek:ac):Option Int:=
 (Fm c_1.Clauses ek).bind fun r3=>some r3
def my (ga:Int):Option Bool:=
 (ii ga 0 36524).bind fun r2=>some r2
def kw (aU:(Condition×Int)→Option Int)(c_1:Condition)(cm:Int)(self:(Int×Int)→Option (Int⊕Int))(x5:Int×Int):Option (Int⊕Int):=
 bif (decide (x5.2<(len c_1.Parts))) then ((aN c_1.Parts x5.2).bind fun e6=>(aU (e6,x5.1)).bind fun r7=>bif (decide (r7<0)) then (some (.inl (-1))) else (self (r7,(au (x5.2+1))))) else (some (.inr x5.1))
def ls (aU:(Condition×Int)→Option Int)(c_1:Condition)(cm:Int): (Int×Int)→Option (Int⊕Int):=aF (kw aU c_1 cm)
theorem Ea (aU:(Condition×Int)→Option Int)(c_1:Condition)(cm:Int): ∀a,Fin1 fun f=>kw aU c_1 cm f a:=by
 unfold kw
 repeat first|intro _|exact aQ|exact bx|apply bA|apply be|apply bf|apply bp|apply bB
theorem Gt (aU:(Condition×Int)→Option Int)(c_1:Condition)(cm:Int)(x:Int×Int):ls aU c_1 cm x=kw aU c_1 cm (ls aU c_1 cm) x:=bE (Ea aU c_1 cm) x
def wU (aU:(Condition×Int)→Option Int)(c_1:Condition)(cm:Int):Option Int:=
 aX (ρ:=Int) (bif (decide ((au (cm+1))>15)) then (some (.inr true)) else ((ii c_1.Op 1 6).bind fun r20=>bU (ρ:=Int) (bif (!r20) then (some (.inr true)) else ((aN [(-1),0,0,0,1,2,2] c_1.Op).bind fun e22=>some (.inr ((len c_1.Parts) != e22)))) fun u21:Bool=>some (.inr u21))) fun u3:Bool=>bif u3 then (some (-1)) else (aX (ρ:=Int) (bif (!((c_1.Op==2)==(!(c_1.Name==([]:ac))))) then (some (.inr true)) else (bU (ρ:=Int) (bif (c_1.Op==2) then ((uL c_1.Name).bind fun r10=>bU (ρ:=Int) (bif (!r10) then (some (.inr true)) else (bU (ρ:=Int) (bif (c_1.Op != 3) then (bU (ρ:=Int) (bif (c_1.Day != 0) then (some (.inr true)) else ((my c_1.Day).bind fun r14=>some (.inr (!r14)))) fun u13:Bool=>some (.inr u13)) else ((my c_1.Day).bind fun r15=>some (.inr (!r15)))) fun u12:Bool=>some (.inr u12))) fun u11:Bool=>some (.inr u11)) else (bU (ρ:=Int) (bif (c_1.Op != 3) then (bU (ρ:=Int) (bif (c_1.Day != 0) then (some (.inr true)) else ((my c_1.Day).bind fun r18=>some (.inr (!r18)))) fun u17:Bool=>some (.inr u17)) else ((my c_1.Day).bind fun r19=>some (.inr (!r19)))) fun u16:Bool=>some (.inr u16))) fun u9:Bool=>some (.inr u9))) fun u4:Bool=>bif u4 then (some (-1)) else (aX (ρ:=Int) (ls aU c_1 cm ((au (cm+1)),0)) fun u8:Int=>some u8))
def lD (aU:(Condition×Int)→Option Int)(x:Condition×Int):Option Int:=wU aU x.1 x.2
def Q7 (c_1:Condition)(cm:Int):Option Int:=aF lD (c_1,cm)
theorem VY:∀x,Fin1 fun aU=>lD aU x:=by
 unfold lD wU
 repeat first|intro _|exact aQ|exact bx|exact hP|exact jJ|exact gx|exact io|exact gH|exact gI|apply bA|apply be|apply bf|apply bp|apply bB|apply oz|unfold ls|unfold kw
theorem YQ (c_1:Condition)(cm:Int):Q7 c_1 cm=wU (aF lD) c_1 cm:=bE VY (c_1,cm)
def Ih (c_1:Condition):Option Bool:=
 (Q7 c_1 0).bind fun r2=>some (decide (r2>0))
def Ji (c_1:Contract)(i_2:Int):Option Bool:=
 (aN c_1.Clauses i_2).bind fun e3=>(uL e3.Id).bind fun r4=>aX (ρ:=Bool) (bif (!r4) then (some (.inr true)) else ((D7 c_1 e3.Id).bind fun r23=>bU (ρ:=Bool) (bif (r23 != i_2) then (some (.inr true)) else ((uL e3.Action).bind fun r25=>bU (ρ:=Bool) (bif (!r25) then (some (.inr true)) else ((ii e3.Kind 1 4).bind fun r27=>some (.inr (!r27)))) fun u26:Bool=>some (.inr u26))) fun u24:Bool=>some (.inr u24))) fun u5:Bool=>bif u5 then (some false) else ((ii e3.Party 0 (au ((len c_1.Parties) - 1))).bind fun r6=>aX (ρ:=Bool) (bif (!r6) then (some (.inr true)) else ((ii e3.Other 0 (au ((len c_1.Parties) - 1))).bind fun r19=>bU (ρ:=Bool) (bif (!r19) then (some (.inr true)) else (bU (ρ:=Bool) (bif (e3.Party==e3.Other) then (some (.inr true)) else ((Ih e3.When).bind fun r22=>some (.inr (!r22)))) fun u21:Bool=>some (.inr u21))) fun u20:Bool=>some (.inr u20))) fun u7:Bool=>bif u7 then (some false) else ((ii e3.Amount 0 1000000).bind fun r8=>aX (ρ:=Bool) (bif (!r8) then (some (.inr true)) else ((ii e3.Within 0 400).bind fun r15=>cD (bif (!r15) then true else (cD (bif (e3.Kind != 1) then (cD (bif (e3.Amount != 0) then true else (e3.Within != 0)) fun u18:Bool=>u18) else false) fun u17:Bool=>u17)) fun u16:Bool=>some (.inr u16))) fun u9:Bool=>bif u9 then (some false) else (bif (e3.Repair==([]:ac)) then (some true) else ((D7 c_1 e3.Repair).bind fun r10=>aX (ρ:=Bool) (bif (e3.Kind != 3) then (bU (ρ:=Bool) (bif (decide (r10≥0)) then (bU (ρ:=Bool) (bif (r10 != i_2) then ((aN c_1.Clauses r10).bind fun e14=>some (.inr (e14.Kind==1))) else (some (.inr false))) fun u13:Bool=>some (.inr u13)) else (some (.inr false))) fun u12:Bool=>some (.inr u12)) else (some (.inr false))) fun u11:Bool=>some u11))))
def kv (ch:(Condition×(List ac))→Option (List ac))(c_3:Condition)(bn:List ac)(self:(Int×(List ac))→Option ((List ac)⊕(List ac)))(x4:Int×(List ac)):Option ((List ac)⊕(List ac)):=
 bif (decide (x4.1<(len c_3.Parts))) then ((aN c_3.Parts x4.1).bind fun e5=>(ch (e5,x4.2)).bind fun r6=>self ((au (x4.1+1)),r6)) else (some (.inr x4.2))
def mS (ch:(Condition×(List ac))→Option (List ac))(c_3:Condition)(bn:List ac): (Int×(List ac))→Option ((List ac)⊕(List ac)):=aF (kv ch c_3 bn)
theorem D4 (ch:(Condition×(List ac))→Option (List ac))(c_3:Condition)(bn:List ac): ∀a,Fin1 fun f=>kv ch c_3 bn f a:=by
 unfold kv
 repeat first|intro _|exact aQ|exact bx|apply bA|apply be|apply bf|apply bp|apply bB
theorem Gr (ch:(Condition×(List ac))→Option (List ac))(c_3:Condition)(bn:List ac)(x:Int×(List ac)):mS ch c_3 bn x=kv ch c_3 bn (mS ch c_3 bn) x:=bE (D4 ch c_3 bn) x
def wS (ch:(Condition×(List ac))→Option (List ac))(c_3:Condition)(bn:List ac):Option (List ac):=
 aX (ρ:=(List ac)) (bif (c_3.Op==2) then ((ge 16 bn [c_3.Name]).bind fun a8=>some (.inr a8)) else (some (.inr bn))) fun u3:(List ac)=>aX (ρ:=(List ac)) (mS ch c_3 bn (0,u3)) fun u7:(List ac)=>some u7
def mR (ch:(Condition×(List ac))→Option (List ac))(x:Condition×(List ac)):Option (List ac):=wS ch x.1 x.2
def Q4 (c_3:Condition)(bn:List ac):Option (List ac):=aF mR (c_3,bn)
theorem VT:∀x,Fin1 fun ch=>mR ch x:=by
 unfold mR wS
 repeat first|intro _|exact aQ|exact bx|exact hP|exact jJ|exact gx|exact io|exact gH|exact gI|apply bA|apply be|apply bf|apply bp|apply bB|apply oz|unfold mS|unfold kv
theorem YP (c_3:Condition)(bn:List ac):Q4 c_3 bn=wS (aF mR) c_3 bn:=bE VT (c_3,bn)
def kb (s_2:List ac)(x2:Int)(self:(Int×Int×(List ac))→Option ((List ac)⊕(Int×(List ac))))(x6:Int×Int×(List ac)):Option ((List ac)⊕(Int×(List ac))):=
 bif (decide (x6.2.1<(((Int.toNat (len s_2) - Int.toNat x2):Nat):Int))) then ((ui x6.2.2 (0+Int.toNat x2) (Int.toNat (len s_2) - Int.toNat x2) x6.2.1).bind fun e7=>(ui x6.2.2 (0+Int.toNat x2) (Int.toNat (len s_2) - Int.toNat x2) (au (x6.2.1 - 1))).bind fun e8=>bU (ρ:=(List ac)) (bif (!(e7==e8)) then ((ui x6.2.2 (0+Int.toNat x2) (Int.toNat (len s_2) - Int.toNat x2) x6.2.1).bind fun e10=>(aN x6.2.2 x6.1).bind fun e11=>some (.inr ((au (x6.1+1)),(fi x6.2.2 x6.1 e10)))) else (some (.inr (x6.1,x6.2.2)))) fun u9:Int×(List ac)=>self (u9.1,(au (x6.2.1+1)),u9.2)) else (some (.inr (x6.1,x6.2.2)))
def jD (s_2:List ac)(x2:Int):(Int×Int×(List ac))→Option ((List ac)⊕(Int×(List ac))):=aF (kb s_2 x2)
theorem xF (s_2:List ac)(x2:Int):∀a,Fin1 fun f=>kb s_2 x2 f a:=by
 unfold kb
 repeat first|intro _|exact aQ|exact bx|apply bA|apply be|apply bf|apply bp|apply bB
theorem Cl (s_2:List ac)(x2:Int)(x:Int×Int×(List ac)):jD s_2 x2 x=kb s_2 x2 (jD s_2 x2) x:=bE (xF s_2 x2) x
def ka (s_2:List ac)(self:Int→Option ((List ac)⊕(List ac)))(x2:Int):Option ((List ac)⊕(List ac)):=
 bif (decide (x2<(len s_2))) then ((aN s_2 x2).bind fun e3=>(aN s_2 (au (x2 - 1))).bind fun e4=>bif (e3==e4) then ((f9 s_2.length x2 (len s_2)).bind fun s5=>bU (ρ:=(List ac)) (jD s_2 x2 (x2,1,s_2)) fun u15:Int×(List ac)=>(f9 u15.2.length u15.1 (len u15.2)).bind fun s16=>(wa u15.2 (0+Int.toNat u15.1) (Int.toNat (len u15.2) - Int.toNat u15.1) []).bind fun k17=>(f9 k17.length 0 u15.1).bind fun s18=>(fK k17 (0+Int.toNat (0)) (Int.toNat u15.1 - Int.toNat (0))).bind fun p19=>some (.inl p19)) else (self (au (x2+1)))) else (some (.inr s_2))
def pN (s_2:List ac): Int→Option ((List ac)⊕(List ac)):=aF (ka s_2)
theorem xE (s_2:List ac): ∀a,Fin1 fun f=>ka s_2 f a:=by
 unfold ka
 repeat first|intro _|exact aQ|exact bx|apply bA|apply be|apply bf|apply bp|apply bB
theorem Ck (s_2:List ac)(x:Int):pN s_2 x=ka s_2 (pN s_2) x:=bE (xE s_2) x
def zI (s_2:List ac):Option (List ac):=
 bif (decide ((len s_2)<2)) then (some s_2) else (aX (ρ:=(List ac)) (pN s_2 1) fun u20:(List ac)=>some u20)
def Ju (iP:List ac):Option (List ac):=
 (tt iP).bind fun r2=>bif Nat.beq r2.length iP.length then ((zI r2).bind fun r4=>some r4) else none
def lO (c_1:Contract)(self:(Int×(List ac))→Option ((List ac)⊕(List ac)))(x2:Int×(List ac)):Option ((List ac)⊕(List ac)):=
 bif (decide (x2.1<(len c_1.Clauses))) then ((aN c_1.Clauses x2.1).bind fun e3=>(ge 16 x2.2 [e3.Action]).bind fun a4=>(Q4 e3.When a4).bind fun r5=>self ((au (x2.1+1)),r5)) else (some (.inr x2.2))
def oP (c_1:Contract): (Int×(List ac))→Option ((List ac)⊕(List ac)):=aF (lO c_1)
theorem Eb (c_1:Contract): ∀a,Fin1 fun f=>lO c_1 f a:=by
 unfold lO
 repeat first|intro _|exact aQ|exact bx|apply bA|apply be|apply bf|apply bp|apply bB
theorem Gu (c_1:Contract)(x:Int×(List ac)):oP c_1 x=lO c_1 (oP c_1) x:=bE (Eb c_1) x
def ym (c_1:Contract):Option (List ac):=
 aX (ρ:=(List ac)) (oP c_1 (0,[])) fun u6:(List ac)=>(Ju u6).bind fun r7=>some r7
def lM (c_1:Contract)(self:Int→Option (Bool⊕Unit))(x4:Int):Option (Bool⊕Unit):=
 bif (decide (x4<(len c_1.Clauses))) then ((Ji c_1 x4).bind fun r5=>bif (!r5) then (some (.inl false)) else (self (au (x4+1)))) else (some (.inr ()))
def mM (c_1:Contract): Int→Option (Bool⊕Unit):=aF (lM c_1)
theorem Bc (c_1:Contract): ∀a,Fin1 fun f=>lM c_1 f a:=by
 unfold lM
 repeat first|intro _|exact aQ|exact bx|apply bA|apply be|apply bf|apply bp|apply bB
theorem Ge (c_1:Contract)(x:Int):mM c_1 x=lM c_1 (mM c_1) x:=bE (Bc c_1) x
def Ii (c_1:Contract):Option Bool:=
 (Jg c_1.Parties).bind fun r2=>aX (ρ:=Bool) (bif (!r2) then (some (.inr true)) else ((ii (len c_1.Clauses) 1 12).bind fun r8=>some (.inr (!r8)))) fun u3:Bool=>bif u3 then (some false) else (aX (ρ:=Bool) (mM c_1 0) fun u6:Unit=>(ym c_1).bind fun r7=>some (decide ((len r7)≤16)))
def lP (bO:List ac)(self:Int→Option (Bool⊕Unit))(x2:Int):Option (Bool⊕Unit):=
 bif (decide (x2<(len bO))) then ((aN bO x2).bind fun e3=>(uL e3).bind fun r4=>bU (ρ:=Bool) (bif (!r4) then (some (.inr true)) else (bU (ρ:=Bool) (bif (decide (x2>0)) then ((aN bO (au (x2 - 1))).bind fun e7=>some (.inr (Op.bytesLess e3 e7||e3==e7))) else (some (.inr false))) fun u6:Bool=>some (.inr u6))) fun u5:Bool=>bif u5 then (some (.inl false)) else (self (au (x2+1)))) else (some (.inr ()))
def mT (bO:List ac): Int→Option (Bool⊕Unit):=aF (lP bO)
theorem Ee (bO:List ac): ∀a,Fin1 fun f=>lP bO f a:=by
 unfold lP
 repeat first|intro _|exact aQ|exact bx|apply bA|apply be|apply bf|apply bp|apply bB
theorem Gv (bO:List ac)(x:Int):mT bO x=lP bO (mT bO) x:=bE (Ee bO) x
def Jo (bO:List ac):Option Bool:=
 aX (ρ:=Bool) (mT bO 0) fun u8:Unit=>some (decide ((len bO)≤16))
def Jq (f_1:ac)(a_2:List ac):Option Bool:=
 (pV a_2 f_1).bind fun r3=>some (!r3)
def mh (s_1:List ac)(f_2:(List ac))(self:Int→Option (Int⊕Unit))(x3:Int):Option (Int⊕Unit):=
 bif (decide (x3<(len s_1))) then ((aN s_1 x3).bind fun e4=>(Jq e4 f_2).bind fun r5=>bif r5 then (some (.inl x3)) else (self (au (x3+1)))) else (some (.inr ()))
def se (s_1:List ac)(f_2:(List ac)): Int→Option (Int⊕Unit):=aF (mh s_1 f_2)
theorem xK (s_1:List ac)(f_2:(List ac)): ∀a,Fin1 fun f=>mh s_1 f_2 f a:=by
 unfold mh
 repeat first|intro _|exact aQ|exact bx|apply bA|apply be|apply bf|apply bp|apply bB
theorem MR (s_1:List ac)(f_2:(List ac))(x:Int):se s_1 f_2 x=mh s_1 f_2 (se s_1 f_2) x:=bE (xK s_1 f_2) x
def Fq (s_1:List ac)(f_2:(List ac)):Option Int:=
 aX (ρ:=Int) (se s_1 f_2 0) fun u6:Unit=>some (-1)
def Fl (s_1:List ac)(f_2:(List ac)):Option Bool:=
 (Fq s_1 f_2).bind fun r3=>some (decide (r3≥0))
def tS (ao:List Int)(self:(Int×Int)→Option (Int⊕Int))(x2:Int×Int):Option (Int⊕Int):=
 bif (decide (x2.2<(len ao))) then ((aN ao x2.2).bind fun e3=>self ((au (x2.1+e3)),(au (x2.2+1)))) else (some (.inr x2.1))
def Jv (ao:List Int): (Int×Int)→Option (Int⊕Int):=aF (tS ao)
theorem Ng (ao:List Int): ∀a,Fin1 fun f=>tS ao f a:=by
 unfold tS
 repeat first|intro _|exact aQ|exact bx|apply bA|apply be|apply bf|apply bp|apply bB
def Gz (ao:List Int):Option Int:=
 aX (ρ:=Int) (Jv ao (0,0)) fun u4:Int=>some u4
def Jm (x_1:Clause)(a_2:Contract)(a_3:Int):Option Bool:=
 (aN a_2.Clauses a_3).bind fun e4=>some (x_1.Repair==e4.Id)
def me (s_1:List Clause)(f_2:Contract×Int)(self:Int→Option (Int⊕Unit))(x3:Int):Option (Int⊕Unit):=
 bif (decide (x3<(len s_1))) then ((aN s_1 x3).bind fun e4=>(Jm e4 f_2.1 f_2.2).bind fun r5=>bif r5 then (some (.inl x3)) else (self (au (x3+1)))) else (some (.inr ()))
def sa (s_1:List Clause)(f_2:Contract×Int): Int→Option (Int⊕Unit):=aF (me s_1 f_2)
theorem xH (s_1:List Clause)(f_2:Contract×Int): ∀a,Fin1 fun f=>me s_1 f_2 f a:=by
 unfold me
 repeat first|intro _|exact aQ|exact bx|apply bA|apply be|apply bf|apply bp|apply bB
theorem MO (s_1:List Clause)(f_2:Contract×Int)(x:Int):sa s_1 f_2 x=me s_1 f_2 (sa s_1 f_2) x:=bE (xH s_1 f_2) x
def Fn (s_1:List Clause)(f_2:Contract×Int):Option Int:=
 aX (ρ:=Int) (sa s_1 f_2 0) fun u6:Unit=>some (-1)
def Fi (s_1:List Clause)(f_2:Contract×Int):Option Bool:=
 (Fn s_1 (f_2.1,f_2.2)).bind fun r3=>some (decide (r3≥0))
def Jl (c_1:Contract)(i_2:Int):Option Bool:=
 (Fi c_1.Clauses (c_1,i_2)).bind fun r3=>some r3
def LZ (iT:Duty)(a_2:Duty):Option Bool:=
 some (iT.Clause==a_2.Clause)
def mf (s_1:List Duty)(f_2:Duty)(self:Int→Option (Int⊕Unit))(x3:Int):Option (Int⊕Unit):=
 bif (decide (x3<(len s_1))) then ((aN s_1 x3).bind fun e4=>(LZ e4 f_2).bind fun r5=>bif r5 then (some (.inl x3)) else (self (au (x3+1)))) else (some (.inr ()))
def sb (s_1:List Duty)(f_2:Duty): Int→Option (Int⊕Unit):=aF (mf s_1 f_2)
theorem xI (s_1:List Duty)(f_2:Duty): ∀a,Fin1 fun f=>mf s_1 f_2 f a:=by
 unfold mf
 repeat first|intro _|exact aQ|exact bx|apply bA|apply be|apply bf|apply bp|apply bB
theorem MP (s_1:List Duty)(f_2:Duty)(x:Int):sb s_1 f_2 x=mf s_1 f_2 (sb s_1 f_2) x:=bE (xI s_1 f_2) x
def Fo (s_1:List Duty)(f_2:Duty):Option Int:=
 aX (ρ:=Int) (sb s_1 f_2 0) fun u6:Unit=>some (-1)
def Fj (s_1:List Duty)(f_2:Duty):Option Bool:=
 (Fo s_1 f_2).bind fun r3=>some (decide (r3≥0))
def Jn (c_1:Contract)(s_2:State)(i_3:Int):Option Bool:=
 (aN s_2.Duties i_3).bind fun e4=>(ii e4.Clause 0 (au ((len c_1.Clauses) - 1))).bind fun r5=>aX (ρ:=Bool) (bif (!r5) then (some (.inr true)) else ((aN c_1.Clauses e4.Clause).bind fun e18=>bU (ρ:=Bool) (bif (e18.Kind != 1) then (some (.inr true)) else ((ii e4.Since 0 s_2.Day).bind fun r20=>some (.inr (!r20)))) fun u19:Bool=>some (.inr u19))) fun u6:Bool=>bif u6 then (some false) else ((aN c_1.Clauses e4.Clause).bind fun e7=>aX (ρ:=Bool) (bif (e4.Due != (au (e4.Since+e7.Within))) then (some (.inr true)) else ((my e4.Due).bind fun r14=>bU (ρ:=Bool) (bif (!r14) then (some (.inr true)) else (bU (ρ:=Bool) (bif (decide (i_3>0)) then ((aN s_2.Duties (au (i_3 - 1))).bind fun e17=>some (.inr (decide (e4.Since<e17.Since)))) else (some (.inr false))) fun u16:Bool=>some (.inr u16))) fun u15:Bool=>some (.inr u15))) fun u8:Bool=>bif u8 then (some false) else ((Jl c_1 e4.Clause).bind fun r9=>aX (ρ:=Bool) (bif (!r9) then ((pn s_2.Duties 0 i_3).bind fun s12=>(Fj s12 e4).bind fun r13=>some (.inr r13)) else (some (.inr false))) fun u10:Bool=>bif u10 then (some false) else (bif (e4.Status==1) then (cD (bif (decide (e4.Due≥s_2.Day)) then (!s_2.Over) else false) fun u11:Bool=>some u11) else (bif (e4.Status==2) then (some true) else (bif (e4.Status==3) then (some (decide (e4.Due<s_2.Day))) else (bif (e4.Status==4) then (some s_2.Over) else (some false)))))))
def LY (x_1:Int):Option Bool:=
 (ii x_1 (-1000000000) 1000000000).bind fun r2=>some r2
def Jr (b_1:Int):Option Bool:=
 (LY b_1).bind fun r2=>some (!r2)
def mg (s_1:List Int)(f_2:Unit)(self:Int→Option (Int⊕Unit))(x3:Int):Option (Int⊕Unit):=
 bif (decide (x3<(len s_1))) then ((aN s_1 x3).bind fun e4=>(Jr e4).bind fun r5=>bif r5 then (some (.inl x3)) else (self (au (x3+1)))) else (some (.inr ()))
def sd (s_1:List Int)(f_2:Unit): Int→Option (Int⊕Unit):=aF (mg s_1 f_2)
theorem xJ (s_1:List Int)(f_2:Unit): ∀a,Fin1 fun f=>mg s_1 f_2 f a:=by
 unfold mg
 repeat first|intro _|exact aQ|exact bx|apply bA|apply be|apply bf|apply bp|apply bB
theorem MQ (s_1:List Int)(f_2:Unit)(x:Int):sd s_1 f_2 x=mg s_1 f_2 (sd s_1 f_2) x:=bE (xJ s_1 f_2) x
def Fp (s_1:List Int)(f_2:Unit):Option Int:=
 aX (ρ:=Int) (sd s_1 f_2 0) fun u6:Unit=>some (-1)
def Fk (s_1:List Int)(f_2:Unit):Option Bool:=
 (Fp s_1 ()).bind fun r3=>some (decide (r3≥0))
def lQ (c_1:Contract)(s_2:State)(self:Int→Option (Bool⊕Unit))(x7:Int):Option (Bool⊕Unit):=
 bif (decide (x7<(len s_2.Duties))) then ((Jn c_1 s_2 x7).bind fun r8=>bif (!r8) then (some (.inl false)) else (self (au (x7+1)))) else (some (.inr ()))
def oQ (c_1:Contract)(s_2:State): Int→Option (Bool⊕Unit):=aF (lQ c_1 s_2)
theorem Ef (c_1:Contract)(s_2:State): ∀a,Fin1 fun f=>lQ c_1 s_2 f a:=by
 unfold lQ
 repeat first|intro _|exact aQ|exact bx|apply bA|apply be|apply bf|apply bp|apply bB
theorem Gw (c_1:Contract)(s_2:State)(x:Int):oQ c_1 s_2 x=lQ c_1 s_2 (oQ c_1 s_2) x:=bE (Ef c_1 s_2) x
def Jp (c_1:Contract)(s_2:State):Option Bool:=
 (ym c_1).bind fun r3=>(my s_2.Day).bind fun r4=>aX (ρ:=Bool) (bif (!r4) then (some (.inr true)) else ((Jo s_2.Facts).bind fun r13=>bU (ρ:=Bool) (bif (!r13) then (some (.inr true)) else ((Fl s_2.Facts r3).bind fun r15=>some (.inr r15))) fun u14:Bool=>some (.inr u14))) fun u5:Bool=>bif u5 then (some false) else (aX (ρ:=Bool) (bif (decide ((len s_2.Duties)>24)) then (some (.inr true)) else (bU (ρ:=Bool) (bif ((len s_2.Balances) != (len c_1.Parties)) then (some (.inr true)) else ((Gz s_2.Balances).bind fun r12=>some (.inr (r12 != 0)))) fun u11:Bool=>some (.inr u11))) fun u6:Bool=>bif u6 then (some false) else (aX (ρ:=Bool) (oQ c_1 s_2 0) fun u9:Unit=>(Fk s_2.Balances ()).bind fun r10=>some (!r10)))
def Gj (c_1:Contract)(s_2:State):Option Bool:=
 (Ii c_1).bind fun r3=>aX (ρ:=Bool) (bif r3 then ((Jp c_1 s_2).bind fun r5=>some (.inr r5)) else (some (.inr false))) fun u4:Bool=>some u4
def ku (cg:(Condition×(List Int))→Option (List Int))(c_3:Condition)(bn:List Int)(self:(Int×(List Int))→Option ((List Int)⊕(List Int)))(x4:Int×(List Int)):Option ((List Int)⊕(List Int)):=
 bif (decide (x4.1<(len c_3.Parts))) then ((aN c_3.Parts x4.1).bind fun e5=>(cg (e5,x4.2)).bind fun r6=>self ((au (x4.1+1)),r6)) else (some (.inr x4.2))
def mQ (cg:(Condition×(List Int))→Option (List Int))(c_3:Condition)(bn:List Int): (Int×(List Int))→Option ((List Int)⊕(List Int)):=aF (ku cg c_3 bn)
theorem D0 (cg:(Condition×(List Int))→Option (List Int))(c_3:Condition)(bn:List Int): ∀a,Fin1 fun f=>ku cg c_3 bn f a:=by
 unfold ku
 repeat first|intro _|exact aQ|exact bx|apply bA|apply be|apply bf|apply bp|apply bB
theorem Gq (cg:(Condition×(List Int))→Option (List Int))(c_3:Condition)(bn:List Int)(x:Int×(List Int)):mQ cg c_3 bn x=ku cg c_3 bn (mQ cg c_3 bn) x:=bE (D0 cg c_3 bn) x
def wQ (cg:(Condition×(List Int))→Option (List Int))(c_3:Condition)(bn:List Int):Option (List Int):=
 aX (ρ:=(List Int)) (bif (c_3.Op==3) then ((ge 8 bn [c_3.Day]).bind fun a8=>some (.inr a8)) else (some (.inr bn))) fun u3:(List Int)=>aX (ρ:=(List Int)) (mQ cg c_3 bn (0,u3)) fun u7:(List Int)=>some u7
def mP (cg:(Condition×(List Int))→Option (List Int))(x:Condition×(List Int)):Option (List Int):=wQ cg x.1 x.2
def Q2 (c_3:Condition)(bn:List Int):Option (List Int):=aF mP (c_3,bn)
theorem VR:∀x,Fin1 fun cg=>mP cg x:=by
 unfold mP wQ
 repeat first|intro _|exact aQ|exact bx|exact hP|exact jJ|exact gx|exact io|exact gH|exact gI|apply bA|apply be|apply bf|apply bp|apply bB|apply oz|unfold mQ|unfold ku
theorem YO (c_3:Condition)(bn:List Int):Q2 c_3 bn=wQ (aF mP) c_3 bn:=bE VR (c_3,bn)
def kx (c_1:Contract)(s_2:State)(self:(Int×(List Int))→Option (Int⊕(List Int)))(x3:Int×(List Int)):Option (Int⊕(List Int)):=
 bif (decide (x3.1<(len s_2.Duties))) then ((aN s_2.Duties x3.1).bind fun e4=>bU (ρ:=Int) (bif (e4.Status==1) then ((ge 8 x3.2 [(au (e4.Due+1))]).bind fun a6=>some (.inr a6)) else (some (.inr x3.2))) fun u5:(List Int)=>self ((au (x3.1+1)),u5)) else (some (.inr x3.2))
def mU (c_1:Contract)(s_2:State): (Int×(List Int))→Option (Int⊕(List Int)):=aF (kx c_1 s_2)
theorem Eh (c_1:Contract)(s_2:State): ∀a,Fin1 fun f=>kx c_1 s_2 f a:=by
 unfold kx
 repeat first|intro _|exact aQ|exact bx|apply bA|apply be|apply bf|apply bp|apply bB
theorem vU (c_1:Contract)(s_2:State)(x:Int×(List Int)):mU c_1 s_2 x=kx c_1 s_2 (mU c_1 s_2) x:=bE (Eh c_1 s_2) x
def lR (c_1:Contract)(s_2:State)(self:(Int×(List Int))→Option (Int⊕(List Int)))(x8:Int×(List Int)):Option (Int⊕(List Int)):=
 bif (decide (x8.1<(len c_1.Clauses))) then ((aN c_1.Clauses x8.1).bind fun e9=>(Q2 e9.When x8.2).bind fun r10=>self ((au (x8.1+1)),r10)) else (some (.inr x8.2))
def oS (c_1:Contract)(s_2:State): (Int×(List Int))→Option (Int⊕(List Int)):=aF (lR c_1 s_2)
theorem Ei (c_1:Contract)(s_2:State): ∀a,Fin1 fun f=>lR c_1 s_2 f a:=by
 unfold lR
 repeat first|intro _|exact aQ|exact bx|apply bA|apply be|apply bf|apply bp|apply bB
theorem Gx (c_1:Contract)(s_2:State)(x:Int×(List Int)):oS c_1 s_2 x=lR c_1 s_2 (oS c_1 s_2) x:=bE (Ei c_1 s_2) x
def lS (c_1:Contract)(s_2:State)(u11:(List Int))(self:(Int×Int)→Option (Int⊕Int))(x12:Int×Int):Option (Int⊕Int):=
 bif (decide (x12.2<(len u11))) then ((aN u11 x12.2).bind fun e13=>bU (ρ:=Int) (bif (decide (e13>s_2.Day)) then ((my e13).bind fun r16=>cD (bif r16 then (cD (bif (decide (x12.1<0)) then true else (decide (e13<x12.1))) fun u18:Bool=>u18) else false) fun u17:Bool=>some (.inr u17)) else (some (.inr false))) fun u14:Bool=>cD (bif u14 then e13 else x12.1) fun u15:Int=>self (u15,(au (x12.2+1)))) else (some (.inr x12.1))
def mV (c_1:Contract)(s_2:State)(u11:(List Int)):(Int×Int)→Option (Int⊕Int):=aF (lS c_1 s_2 u11)
theorem Ej (c_1:Contract)(s_2:State)(u11:(List Int)):∀a,Fin1 fun f=>lS c_1 s_2 u11 f a:=by
 unfold lS
 repeat first|intro _|exact aQ|exact bx|apply bA|apply be|apply bf|apply bp|apply bB
theorem Gy (c_1:Contract)(s_2:State)(u11:(List Int))(x:Int×Int):mV c_1 s_2 u11 x=lS c_1 s_2 u11 (mV c_1 s_2 u11) x:=bE (Ej c_1 s_2 u11) x
def L0 (c_1:Contract)(s_2:State):Option Int:=
 aX (ρ:=Int) (mU c_1 s_2 (0,[])) fun u7:(List Int)=>aX (ρ:=Int) (oS c_1 s_2 (0,u7)) fun u11:(List Int)=>aX (ρ:=Int) (mV c_1 s_2 u11 ((-1),0)) fun u19:Int=>bif s_2.Over then (some (-1)) else (some u19)
def Jf (c_1:Contract)(s_2:State):Option (Int×Bool):=
 (Gj c_1 s_2).bind fun r3=>bif (!r3) then (some (0,false)) else ((L0 c_1 s_2).bind fun r4=>some (r4,true))
def l6 (a_1:List ac)(b_2:List ac)(self:Int→Option (Bool⊕Unit))(x3:Int):Option (Bool⊕Unit):=
 bif (decide (x3<(len a_1))) then ((aN a_1 x3).bind fun e4=>(aN b_2 x3).bind fun e5=>bif (!(e4==e5)) then (some (.inl false)) else (self (au (x3+1)))) else (some (.inr ()))
def rO (a_1:List ac)(b_2:List ac): Int→Option (Bool⊕Unit):=aF (l6 a_1 b_2)
theorem xt (a_1:List ac)(b_2:List ac): ∀a,Fin1 fun f=>l6 a_1 b_2 f a:=by
 unfold l6
 repeat first|intro _|exact aQ|exact bx|apply bA|apply be|apply bf|apply bp|apply bB
theorem MD (a_1:List ac)(b_2:List ac)(x:Int):rO a_1 b_2 x=l6 a_1 b_2 (rO a_1 b_2) x:=bE (xt a_1 b_2) x
def vd (a_1:List ac)(b_2:List ac):Option Bool:=
 bif ((len a_1) != (len b_2)) then (some false) else (aX (ρ:=Bool) (rO a_1 b_2 0) fun u6:Unit=>some true)
def jX (bc:(Condition×Condition)→Option Bool)(a_1:List Condition)(b_2:List Condition)(self:Int→Option (Bool⊕Unit))(x3:Int):Option (Bool⊕Unit):=
 bif (decide (x3<(len a_1))) then ((aN a_1 x3).bind fun e4=>(aN b_2 x3).bind fun e5=>(bc (e4,e5)).bind fun r6=>bif (!r6) then (some (.inl false)) else (self (au (x3+1)))) else (some (.inr ()))
def pJ (bc:(Condition×Condition)→Option Bool)(a_1:List Condition)(b_2:List Condition): Int→Option (Bool⊕Unit):=aF (jX bc a_1 b_2)
theorem xp (bc:(Condition×Condition)→Option Bool)(a_1:List Condition)(b_2:List Condition): ∀a,Fin1 fun f=>jX bc a_1 b_2 f a:=by
 unfold jX
 repeat first|intro _|exact aQ|exact bx|apply bA|apply be|apply bf|apply bp|apply bB
theorem MA (bc:(Condition×Condition)→Option Bool)(a_1:List Condition)(b_2:List Condition)(x:Int):pJ bc a_1 b_2 x=jX bc a_1 b_2 (pJ bc a_1 b_2) x:=bE (xp bc a_1 b_2) x
def vb (bc:(Condition×Condition)→Option Bool)(a_1:List Condition)(b_2:List Condition):Option Bool:=
 bif ((len a_1) != (len b_2)) then (some false) else (aX (ρ:=Bool) (pJ bc a_1 b_2 0) fun u7:Unit=>some true)
def rL (bc:(Condition×Condition)→Option Bool)(a_1:Condition)(b_2:Condition):Option Bool:=
 bif (a_1.Op != b_2.Op) then (some false) else (bif (!(a_1.Name==b_2.Name)) then (some false) else (bif (a_1.Day != b_2.Day) then (some false) else ((vb bc a_1.Parts b_2.Parts).bind fun r3=>bif (!r3) then (some false) else (some true))))
def oJ (bc:(Condition×Condition)→Option Bool)(x:Condition×Condition):Option Bool:=rL bc x.1 x.2
def yU (a_1:Condition)(b_2:Condition):Option Bool:=aF oJ (a_1,b_2)
theorem Sv:∀x,Fin1 fun bc=>oJ bc x:=by
 unfold oJ rL
 repeat first|intro _|exact aQ|exact bx|exact hP|exact jJ|exact gx|exact io|exact gH|exact gI|apply bA|apply be|apply bf|apply bp|apply bB|apply oz|unfold vb|unfold pJ|unfold jX
theorem VG (a_1:Condition)(b_2:Condition):yU a_1 b_2=rL (aF oJ) a_1 b_2:=bE Sv (a_1,b_2)
def uY (a_1:Clause)(b_2:Clause):Option Bool:=
 bif (!(a_1.Id==b_2.Id)) then (some false) else (bif (a_1.Kind != b_2.Kind) then (some false) else (bif (a_1.Party != b_2.Party) then (some false) else (bif (!(a_1.Action==b_2.Action)) then (some false) else (bif (a_1.Other != b_2.Other) then (some false) else (bif (a_1.Amount != b_2.Amount) then (some false) else ((yU a_1.When b_2.When).bind fun r3=>bif (!r3) then (some false) else (bif (a_1.Within != b_2.Within) then (some false) else (bif (!(a_1.Repair==b_2.Repair)) then (some false) else (some true)))))))))
def l3 (a_1:List Clause)(b_2:List Clause)(self:Int→Option (Bool⊕Unit))(x3:Int):Option (Bool⊕Unit):=
 bif (decide (x3<(len a_1))) then ((aN a_1 x3).bind fun e4=>(aN b_2 x3).bind fun e5=>(uY e4 e5).bind fun r6=>bif (!r6) then (some (.inl false)) else (self (au (x3+1)))) else (some (.inr ()))
def rK (a_1:List Clause)(b_2:List Clause): Int→Option (Bool⊕Unit):=aF (l3 a_1 b_2)
theorem xo (a_1:List Clause)(b_2:List Clause): ∀a,Fin1 fun f=>l3 a_1 b_2 f a:=by
 unfold l3
 repeat first|intro _|exact aQ|exact bx|apply bA|apply be|apply bf|apply bp|apply bB
theorem Mz (a_1:List Clause)(b_2:List Clause)(x:Int):rK a_1 b_2 x=l3 a_1 b_2 (rK a_1 b_2) x:=bE (xo a_1 b_2) x
def yS (a_1:List Clause)(b_2:List Clause):Option Bool:=
 bif ((len a_1) != (len b_2)) then (some false) else (aX (ρ:=Bool) (rK a_1 b_2 0) fun u7:Unit=>some true)
def yX (a_1:Contract)(b_2:Contract):Option Bool:=
 (vd a_1.Parties b_2.Parties).bind fun r3=>bif (!r3) then (some false) else ((yS a_1.Clauses b_2.Clauses).bind fun r4=>bif (!r4) then (some false) else (some true))
def vc (a_1:Duty)(b_2:Duty):Option Bool:=
 bif (a_1.Clause != b_2.Clause) then (some false) else (bif (a_1.Since != b_2.Since) then (some false) else (bif (a_1.Due != b_2.Due) then (some false) else (bif (a_1.Status != b_2.Status) then (some false) else (some true))))
def l4 (a_1:List Duty)(b_2:List Duty)(self:Int→Option (Bool⊕Unit))(x3:Int):Option (Bool⊕Unit):=
 bif (decide (x3<(len a_1))) then ((aN a_1 x3).bind fun e4=>(aN b_2 x3).bind fun e5=>(vc e4 e5).bind fun r6=>bif (!r6) then (some (.inl false)) else (self (au (x3+1)))) else (some (.inr ()))
def rM (a_1:List Duty)(b_2:List Duty): Int→Option (Bool⊕Unit):=aF (l4 a_1 b_2)
theorem xq (a_1:List Duty)(b_2:List Duty): ∀a,Fin1 fun f=>l4 a_1 b_2 f a:=by
 unfold l4
 repeat first|intro _|exact aQ|exact bx|apply bA|apply be|apply bf|apply bp|apply bB
theorem MB (a_1:List Duty)(b_2:List Duty)(x:Int):rM a_1 b_2 x=l4 a_1 b_2 (rM a_1 b_2) x:=bE (xq a_1 b_2) x
def za (a_1:List Duty)(b_2:List Duty):Option Bool:=
 bif ((len a_1) != (len b_2)) then (some false) else (aX (ρ:=Bool) (rM a_1 b_2 0) fun u7:Unit=>some true)
def l5 (a_1:List Int)(b_2:List Int)(self:Int→Option (Bool⊕Unit))(x3:Int):Option (Bool⊕Unit):=
 bif (decide (x3<(len a_1))) then ((aN a_1 x3).bind fun e4=>(aN b_2 x3).bind fun e5=>bif (e4 != e5) then (some (.inl false)) else (self (au (x3+1)))) else (some (.inr ()))
def rN (a_1:List Int)(b_2:List Int): Int→Option (Bool⊕Unit):=aF (l5 a_1 b_2)
theorem xr (a_1:List Int)(b_2:List Int): ∀a,Fin1 fun f=>l5 a_1 b_2 f a:=by
 unfold l5
 repeat first|intro _|exact aQ|exact bx|apply bA|apply be|apply bf|apply bp|apply bB
theorem MC (a_1:List Int)(b_2:List Int)(x:Int):rN a_1 b_2 x=l5 a_1 b_2 (rN a_1 b_2) x:=bE (xr a_1 b_2) x
def zc (a_1:List Int)(b_2:List Int):Option Bool:=
 bif ((len a_1) != (len b_2)) then (some false) else (aX (ρ:=Bool) (rN a_1 b_2 0) fun u6:Unit=>some true)
def ze (a_1:State)(b_2:State):Option Bool:=
 bif (a_1.Day != b_2.Day) then (some false) else ((vd a_1.Facts b_2.Facts).bind fun r3=>bif (!r3) then (some false) else ((za a_1.Duties b_2.Duties).bind fun r4=>bif (!r4) then (some false) else ((zc a_1.Balances b_2.Balances).bind fun r5=>bif (!r5) then (some false) else (bif (!(a_1.Over==b_2.Over)) then (some false) else (some true)))))
def ep (jf:Contract)(jg:State):Option Bool:=
 (zl jf 1048576).bind fun r3=>bif (decide (r3<0)) then (some true) else ((zr jg r3).bind fun r4=>bif (decide (r4<0)) then (some true) else ((tz jf).bind fun r5=>(tA jg).bind fun r6=>(zV r5 r6).bind fun r7=>(tz jf).bind fun r8=>(tA jg).bind fun r9=>(Jf r8 r9).bind fun r10=>cD (bif (r10.1 != r7.1) then true else (!(r10.2==r7.2))) fun u11:Bool=>bif u11 then (some false) else ((tz jf).bind fun r12=>(yX r8 r12).bind fun r13=>bif (!r13) then (some false) else ((tA jg).bind fun r14=>(ze r9 r14).bind fun r15=>bif (!r15) then (some false) else (some true)))))
end
end Go.Ln
