/-
  What each function computes.
-/
import Derived.Test.YtcfddlacocdpoaaGreatDoorFnExactIdlePermissionsLnC
set_option maxHeartbeats 4000000
set_option linter.unusedVariables false
set_option linter.unusedSimpArgs false
set_option maxRecDepth 100000
namespace Go.Ln
open Go
noncomputable section
structure Condition where
 Op:Int
 Name:ac
 Day:Int
 Parts:List Condition
mutual
def ar:Condition→V
 | ⟨a0,a1,a2,a3⟩=>.agg [I a0,str a1,I a2,.isl false (dt a3)]
def dt:List Condition→List V
 | []=>[]
 | x::xs=>ar x::dt xs
end
theorem nK:∀xs,dt xs=xs.map ar
 | []=>by simp[dt]
 | x::xs=>by simp[dt,nK xs]
def aD (x:Condition):V:=.agg [I x.Op,str x.Name,I x.Day,.isl false (x.Parts.map ar)]
abbrev aa (x:Condition):V:=.agg [I x.Op,str x.Name,I x.Day,.isl false (x.Parts.map ar)]
theorem aY (x:Condition):ar x=aD x:=by cases x;simp only[ar,aD,nK]
mutual
theorem eU:∀(a b:Condition),ar a=ar b→a=b
 | ⟨a0,a1,a2,a3⟩,⟨b0,b1,b2,b3⟩,h=>by
  simp only[ar] at h
  have k0:=V.agg.inj h
  obtain⟨h0,k1⟩:=List.cons.inj k0
  obtain rfl:=cf a0 b0 h0
  obtain⟨h1,k2⟩:=List.cons.inj k1
  obtain rfl:=bH a1 b1 h1
  obtain⟨h2,k3⟩:=List.cons.inj k2
  obtain rfl:=cf a2 b2 h2
  obtain⟨h3,k4⟩:=List.cons.inj k3
  have e3:dt a3=dt b3:=by simpa using h3
  obtain rfl:=nJ a3 b3 e3
  rfl
theorem nJ:∀(a b:List Condition),dt a=dt b→a=b
 | [],[],_=>rfl
 | [],_::_,h=>by simp[dt] at h
 | _::_,[],h=>by simp[dt] at h
 | x::xs,y::ys,h=>by
  simp only[dt,List.cons.injEq] at h
  rw[eU x y h.1,nJ xs ys h.2]
end
theorem ba (a b:Condition)(h:aD a=aD b):a=b:=eU a b (by rw[aY,aY,h])
mutual
def ae:Condition→V
 | ⟨a0,a1,a2,a3⟩=>.agg [I a0,str a1,I a2,.usl 4 (cD a3)]
def cD:List Condition→List V
 | []=>[]
 | x::xs=>ae x::cD xs
end
theorem nN:∀xs,cD xs=xs.map ae
 | []=>by simp[cD]
 | x::xs=>by simp[cD,nN xs]
def qQ (x:Condition):V:=.agg [I x.Op,str x.Name,I x.Day,.usl 4 (x.Parts.map ae)]
abbrev pe (x:Condition):V:=.agg [I x.Op,str x.Name,I x.Day,.usl 4 (x.Parts.map ae)]
theorem cU (x:Condition):ae x=qQ x:=by cases x;simp only[ae,qQ,nN]
mutual
theorem kR:∀(a b:Condition),ae a=ae b→a=b
 | ⟨a0,a1,a2,a3⟩,⟨b0,b1,b2,b3⟩,h=>by
  simp only[ae] at h
  have k0:=V.agg.inj h
  obtain⟨h0,k1⟩:=List.cons.inj k0
  obtain rfl:=cf a0 b0 h0
  obtain⟨h1,k2⟩:=List.cons.inj k1
  obtain rfl:=bH a1 b1 h1
  obtain⟨h2,k3⟩:=List.cons.inj k2
  obtain rfl:=cf a2 b2 h2
  obtain⟨h3,k4⟩:=List.cons.inj k3
  have e3:cD a3=cD b3:=by simpa using h3
  obtain rfl:=nM a3 b3 e3
  rfl
theorem nM:∀(a b:List Condition),cD a=cD b→a=b
 | [],[],_=>rfl
 | [],_::_,h=>by simp[cD] at h
 | _::_,[],h=>by simp[cD] at h
 | x::xs,y::ys,h=>by
  simp only[cD,List.cons.injEq] at h
  rw[kR x y h.1,nM xs ys h.2]
end
mutual
theorem oV:∀x:Condition,eb (ae x)=ar x
 | ⟨a0,a1,a2,a3⟩=>by simp[ae,ar,eb,eV,str,nL]
theorem nL:∀xs:List Condition,eV (cD xs)=dt xs
 | []=>by simp[cD,dt,eV]
 | x::xs=>by simp[cD,dt,eV,oV x,nL xs]
end
mutual
theorem uw:∀x:Condition,cy (ae x)=false
 | ⟨a0,a1,a2,a3⟩=>by simp[ae,cy,cZ,str,ni]
theorem ni:∀xs:List Condition,cZ (cD xs)=false
 | []=>by simp[cD,cZ]
 | x::xs=>by simp[cD,cZ,uw x,ni xs]
end
structure Clause where
 Id:ac
 Kind:Int
 Party:Int
 Action:ac
 Other:Int
 Amount:Int
 When:Condition
 Within:Int
 Repair:ac
def ao (x:Clause):V:=.agg [str x.Id,I x.Kind,I x.Party,str x.Action,I x.Other,I x.Amount,I x.When.Op,str x.When.Name,I x.When.Day,.isl false (x.When.Parts.map ar),I x.Within,str x.Repair]
abbrev ak (x:Clause):V:=.agg [str x.Id,I x.Kind,I x.Party,str x.Action,I x.Other,I x.Amount,I x.When.Op,str x.When.Name,I x.When.Day,.isl false (x.When.Parts.map ar),I x.Within,str x.Repair]
theorem cC (a b:Clause)(h:ao a=ao b):a=b:=by
 obtain⟨p0,p1,p2,p3,p4,p5,⟨p6,p7,p8,p9⟩,p10,p11⟩:=a
 obtain⟨q0,q1,q2,q3,q4,q5,⟨q6,q7,q8,q9⟩,q10,q11⟩:=b
 replace h:=V.agg.inj h
 obtain⟨h0,h⟩:=List.cons.inj h
 obtain rfl:=bH p0 q0 h0
 obtain⟨h1,h⟩:=List.cons.inj h
 obtain rfl:=cf p1 q1 h1
 obtain⟨h2,h⟩:=List.cons.inj h
 obtain rfl:=cf p2 q2 h2
 obtain⟨h3,h⟩:=List.cons.inj h
 obtain rfl:=bH p3 q3 h3
 obtain⟨h4,h⟩:=List.cons.inj h
 obtain rfl:=cf p4 q4 h4
 obtain⟨h5,h⟩:=List.cons.inj h
 obtain rfl:=cf p5 q5 h5
 obtain⟨h6,h⟩:=List.cons.inj h
 obtain rfl:=cf p6 q6 h6
 obtain⟨h7,h⟩:=List.cons.inj h
 obtain rfl:=bH p7 q7 h7
 obtain⟨h8,h⟩:=List.cons.inj h
 obtain rfl:=cf p8 q8 h8
 obtain⟨h9,h⟩:=List.cons.inj h
 obtain rfl:=(d6 eU) p9 q9 h9
 obtain⟨h10,h⟩:=List.cons.inj h
 obtain rfl:=cf p10 q10 h10
 obtain⟨h11,h⟩:=List.cons.inj h
 obtain rfl:=bH p11 q11 h11
 rfl
def ah (x:Clause):V:=.agg [str x.Id,I x.Kind,I x.Party,str x.Action,I x.Other,I x.Amount,I x.When.Op,str x.When.Name,I x.When.Day,.usl 4 (x.When.Parts.map ae),I x.Within,str x.Repair]
abbrev sX (x:Clause):V:=.agg [str x.Id,I x.Kind,I x.Party,str x.Action,I x.Other,I x.Amount,I x.When.Op,str x.When.Name,I x.When.Day,.usl 4 (x.When.Parts.map ae),I x.Within,str x.Repair]
theorem fS (x:Clause):eb (ah x)=ao x:=XD (jj rfl (jj rfl (jj rfl (jj rfl (jj rfl (jj rfl (jj rfl (jj rfl (jj rfl (jj (XE (dB oV)) (jj rfl (jj rfl rfl))))))))))))
theorem qP (a b:Clause)(h:ah a=ah b):a=b:=by
 obtain⟨p0,p1,p2,p3,p4,p5,⟨p6,p7,p8,p9⟩,p10,p11⟩:=a
 obtain⟨q0,q1,q2,q3,q4,q5,⟨q6,q7,q8,q9⟩,q10,q11⟩:=b
 replace h:=V.agg.inj h
 obtain⟨h0,h⟩:=List.cons.inj h
 obtain rfl:=bH p0 q0 h0
 obtain⟨h1,h⟩:=List.cons.inj h
 obtain rfl:=cf p1 q1 h1
 obtain⟨h2,h⟩:=List.cons.inj h
 obtain rfl:=cf p2 q2 h2
 obtain⟨h3,h⟩:=List.cons.inj h
 obtain rfl:=bH p3 q3 h3
 obtain⟨h4,h⟩:=List.cons.inj h
 obtain rfl:=cf p4 q4 h4
 obtain⟨h5,h⟩:=List.cons.inj h
 obtain rfl:=cf p5 q5 h5
 obtain⟨h6,h⟩:=List.cons.inj h
 obtain rfl:=cf p6 q6 h6
 obtain⟨h7,h⟩:=List.cons.inj h
 obtain rfl:=bH p7 q7 h7
 obtain⟨h8,h⟩:=List.cons.inj h
 obtain rfl:=cf p8 q8 h8
 obtain⟨h9,h⟩:=List.cons.inj h
 obtain rfl:=(fW kR) p9 q9 h9
 obtain⟨h10,h⟩:=List.cons.inj h
 obtain rfl:=cf p10 q10 h10
 obtain⟨h11,h⟩:=List.cons.inj h
 obtain rfl:=bH p11 q11 h11
 rfl
structure Contract where
 Parties:List ac
 Clauses:List Clause
def aI (x:Contract):V:=.agg [.isl false (x.Parties.map str),.isl false (x.Clauses.map ao)]
abbrev ai (x:Contract):V:=.agg [.isl false (x.Parties.map str),.isl false (x.Clauses.map ao)]
theorem bB (a b:Contract)(h:aI a=aI b):a=b:=by
 obtain⟨p0,p1⟩:=a
 obtain⟨q0,q1⟩:=b
 replace h:=V.agg.inj h
 obtain⟨h0,h⟩:=List.cons.inj h
 obtain rfl:=(d6 bH) p0 q0 h0
 obtain⟨h1,h⟩:=List.cons.inj h
 obtain rfl:=(d6 cC) p1 q1 h1
 rfl
def ph (x:Contract):V:=.agg [.usl 1 (x.Parties.map str),.usl 12 (x.Clauses.map ah)]
abbrev jH (x:Contract):V:=.agg [.usl 1 (x.Parties.map str),.usl 12 (x.Clauses.map ah)]
theorem xg (a b:Contract)(h:ph a=ph b):a=b:=by
 obtain⟨p0,p1⟩:=a
 obtain⟨q0,q1⟩:=b
 replace h:=V.agg.inj h
 obtain⟨h0,h⟩:=List.cons.inj h
 obtain rfl:=(fW bH) p0 q0 h0
 obtain⟨h1,h⟩:=List.cons.inj h
 obtain rfl:=(fW qP) p1 q1 h1
 rfl
mutual
def nR:Condition→Prop
 | ⟨a0,a1,a2,a3⟩=>xW a0∧FW a1∧xW a2∧(a3.length≤maxLen∧HL a3)
def HL:List Condition→Prop
 | []=>True
 | x::xs=>nR x∧HL xs
end
theorem HM:∀xs,HL xs↔∀x∈xs,nR x
 | []=>by simp[HL]
 | x::xs=>by simp[HL,HM xs]
theorem HK (x:Condition):nR x↔xW x.Op∧FW x.Name∧xW x.Day∧D3 nR x.Parts:=by cases x;simp only[nR,HM,D3]
def qW (x:Clause):Prop:=FW x.Id∧xW x.Kind∧xW x.Party∧FW x.Action∧xW x.Other∧xW x.Amount∧nR x.When∧xW x.Within∧FW x.Repair
def Q9 (x:Contract):Prop:=(D3 FW) x.Parties∧(D3 qW) x.Clauses
def mm (a_1:List ac)(ay:Int)(self:(Int×Int)→Option (Int⊕Int))(x3:Int×Int):Option (Int⊕Int):=
 bif (decide (x3.2<(len a_1))) then ((aK a_1 x3.2).bind fun e4=>bif (decide ((aj (x3.1 - (len e4)))<0)) then (some (.inl (-1))) else (self ((aj (x3.1 - (len e4))),(aj (x3.2+1))))) else (some (.inr x3.1))
def sa (a_1:List ac)(ay:Int): (Int×Int)→Option (Int⊕Int):=aA (mm a_1 ay)
theorem xu (a_1:List ac)(ay:Int): ∀a,Fin1 fun f=>mm a_1 ay f a:=by
 unfold mm
 repeat first|intro _|exact aO|exact bv|apply bz|apply bd|apply be|apply bm|apply bA
theorem LN (a_1:List ac)(ay:Int)(x:Int×Int):sa a_1 ay x=mm a_1 ay (sa a_1 ay) x:=bE (xu a_1 ay) x
def zc (a_1:List ac)(ay:Int):Option Int:=
 bif (decide ((aj (ay - (len a_1)))<0)) then (some (-1)) else (bg (ρ:=Int) (sa a_1 ay ((aj (ay - (len a_1))),0)) fun u5:Int=>some u5)
def ku (aW:(Condition×Int)→Option Int)(a_1:List Condition)(ay:Int)(self:(Int×Int)→Option (Int⊕Int))(x3:Int×Int):Option (Int⊕Int):=
 bif (decide (x3.2<(len a_1))) then ((aK a_1 x3.2).bind fun e4=>(aW (e4,x3.1)).bind fun r5=>bif (decide (r5<0)) then (some (.inl (-1))) else (self (r5,(aj (x3.2+1))))) else (some (.inr x3.1))
def pK (aW:(Condition×Int)→Option Int)(a_1:List Condition)(ay:Int): (Int×Int)→Option (Int⊕Int):=aA (ku aW a_1 ay)
theorem xt (aW:(Condition×Int)→Option Int)(a_1:List Condition)(ay:Int): ∀a,Fin1 fun f=>ku aW a_1 ay f a:=by
 unfold ku
 repeat first|intro _|exact aO|exact bv|apply bz|apply bd|apply be|apply bm|apply bA
theorem LM (aW:(Condition×Int)→Option Int)(a_1:List Condition)(ay:Int)(x:Int×Int):pK aW a_1 ay x=ku aW a_1 ay (pK aW a_1 ay) x:=bE (xt aW a_1 ay) x
def uI (aW:(Condition×Int)→Option Int)(a_1:List Condition)(ay:Int):Option Int:=
 bif (decide ((aj (ay - (len a_1)))<0)) then (some (-1)) else (bg (ρ:=Int) (pK aW a_1 ay ((aj (ay - (len a_1))),0)) fun u6:Int=>some u6)
def rZ (aW:(Condition×Int)→Option Int)(a_1:Condition)(ay:Int):Option Int:=
 bif (decide ((aj (ay - (len a_1.Name)))<0)) then (some (-1)) else ((uI aW a_1.Parts (aj (ay - (len a_1.Name)))).bind fun r3=>bif (decide (r3<0)) then (some (-1)) else (some r3))
def oK (aW:(Condition×Int)→Option Int)(x:Condition×Int):Option Int:=rZ aW x.1 x.2
def uF (a_1:Condition)(ay:Int):Option Int:=aA oK (a_1,ay)
theorem QX:∀x,Fin1 fun aW=>oK aW x:=by
 unfold oK rZ
 repeat first|intro _|exact aO|exact bv|exact hZ|exact jg|exact gm|exact ie|exact gE|exact gF|apply bz|apply bd|apply be|apply bm|apply bA|apply nm|unfold uI|unfold pK|unfold ku
theorem TQ (a_1:Condition)(ay:Int):uF a_1 ay=rZ (aA oK) a_1 ay:=bE QX (a_1,ay)
def tc (a_1:Clause)(ay:Int):Option Int:=
 bif (decide ((aj (ay - (len a_1.Id)))<0)) then (some (-1)) else (bif (decide ((aj ((aj (ay - (len a_1.Id))) - (len a_1.Action)))<0)) then (some (-1)) else ((uF a_1.When (aj ((aj (ay - (len a_1.Id))) - (len a_1.Action)))).bind fun r3=>bif (decide (r3<0)) then (some (-1)) else (bif (decide ((aj (r3 - (len a_1.Repair)))<0)) then (some (-1)) else (some (aj (r3 - (len a_1.Repair)))))))
def ml (a_1:List Clause)(ay:Int)(self:(Int×Int)→Option (Int⊕Int))(x3:Int×Int):Option (Int⊕Int):=
 bif (decide (x3.2<(len a_1))) then ((aK a_1 x3.2).bind fun e4=>(tc e4 x3.1).bind fun r5=>bif (decide (r5<0)) then (some (.inl (-1))) else (self (r5,(aj (x3.2+1))))) else (some (.inr x3.1))
def rY (a_1:List Clause)(ay:Int): (Int×Int)→Option (Int⊕Int):=aA (ml a_1 ay)
theorem xr (a_1:List Clause)(ay:Int): ∀a,Fin1 fun f=>ml a_1 ay f a:=by
 unfold ml
 repeat first|intro _|exact aO|exact bv|apply bz|apply bd|apply be|apply bm|apply bA
theorem LL (a_1:List Clause)(ay:Int)(x:Int×Int):rY a_1 ay x=ml a_1 ay (rY a_1 ay) x:=bE (xr a_1 ay) x
def yW (a_1:List Clause)(ay:Int):Option Int:=
 bif (decide ((aj (ay - (len a_1)))<0)) then (some (-1)) else (bg (ρ:=Int) (rY a_1 ay ((aj (ay - (len a_1))),0)) fun u6:Int=>some u6)
def za (a_1:Contract)(ay:Int):Option Int:=
 (zc a_1.Parties ay).bind fun r3=>bif (decide (r3<0)) then (some (-1)) else ((yW a_1.Clauses r3).bind fun r4=>bif (decide (r4<0)) then (some (-1)) else (some r4))
def mp (a_1:List ac)(self:(Int×(List ac))→Option ((List ac)⊕(List ac)))(x3:Int×(List ac)):Option ((List ac)⊕(List ac)):=
 bif (decide (x3.1<(len a_1))) then ((aK a_1 x3.1).bind fun e4=>(aK x3.2 x3.1).bind fun e5=>self ((aj (x3.1+1)),(cT x3.2 x3.1 e4))) else (some (.inr x3.2))
def se (a_1:List ac): (Int×(List ac))→Option ((List ac)⊕(List ac)):=aA (mp a_1)
theorem xz (a_1:List ac): ∀a,Fin1 fun f=>mp a_1 f a:=by
 unfold mp
 repeat first|intro _|exact aO|exact bv|apply bz|apply bd|apply be|apply bm|apply bA
theorem LQ (a_1:List ac)(x:Int×(List ac)):se a_1 x=mp a_1 (se a_1) x:=bE (xz a_1) x
def zl (a_1:List ac):Option (List ac):=
 (uo 16 [] (len a_1)).bind fun m2=>bg (ρ:=(List ac)) (se a_1 (0,m2)) fun u6:(List ac)=>some u6
def kv (aX:Condition→Option Condition)(a_1:List Condition)(self:(Int×(List Condition))→Option ((List Condition)⊕(List Condition)))(x3:Int×(List Condition)):Option ((List Condition)⊕(List Condition)):=
 bif (decide (x3.1<(len a_1))) then ((aK a_1 x3.1).bind fun e4=>(aX e4).bind fun r5=>(aK x3.2 x3.1).bind fun e6=>self ((aj (x3.1+1)),(cT x3.2 x3.1 r5))) else (some (.inr x3.2))
def pL (aX:Condition→Option Condition)(a_1:List Condition): (Int×(List Condition))→Option ((List Condition)⊕(List Condition)):=aA (kv aX a_1)
theorem xy (aX:Condition→Option Condition)(a_1:List Condition): ∀a,Fin1 fun f=>kv aX a_1 f a:=by
 unfold kv
 repeat first|intro _|exact aO|exact bv|apply bz|apply bd|apply be|apply bm|apply bA
theorem LP (aX:Condition→Option Condition)(a_1:List Condition)(x:Int×(List Condition)):pL aX a_1 x=kv aX a_1 (pL aX a_1) x:=bE (xy aX a_1) x
def uM (aX:Condition→Option Condition)(a_1:List Condition):Option (List Condition):=
 (uo 56 (Condition.mk 0 [] 0 []) (len a_1)).bind fun m2=>bg (ρ:=(List Condition)) (pL aX a_1 (0,m2)) fun u7:(List Condition)=>some u7
def sd (aX:Condition→Option Condition)(a_1:Condition):Option Condition:=
 (uM aX a_1.Parts).bind fun r2=>some (Condition.mk a_1.Op a_1.Name a_1.Day r2)
def oL (aX:Condition→Option Condition)(x:Condition):Option Condition:=sd aX x
def zh (a_1:Condition):Option Condition:=aA oL a_1
theorem Q4:∀x,Fin1 fun aX=>oL aX x:=by
 unfold oL sd
 repeat first|intro _|exact aO|exact bv|exact hZ|exact jg|exact gm|exact ie|exact gE|exact gF|apply bz|apply bd|apply be|apply bm|apply bA|apply nm|unfold uM|unfold pL|unfold kv
theorem TR (a_1:Condition):zh a_1=sd (aA oL) a_1:=bE Q4 a_1
def uJ (a_1:Clause):Option Clause:=
 (zh a_1.When).bind fun r2=>some (Clause.mk a_1.Id a_1.Kind a_1.Party a_1.Action a_1.Other a_1.Amount r2 a_1.Within a_1.Repair)
def mo (a_1:List Clause)(self:(Int×(List Clause))→Option ((List Clause)⊕(List Clause)))(x3:Int×(List Clause)):Option ((List Clause)⊕(List Clause)):=
 bif (decide (x3.1<(len a_1))) then ((aK a_1 x3.1).bind fun e4=>(uJ e4).bind fun r5=>(aK x3.2 x3.1).bind fun e6=>self ((aj (x3.1+1)),(cT x3.2 x3.1 r5))) else (some (.inr x3.2))
def sb (a_1:List Clause): (Int×(List Clause))→Option ((List Clause)⊕(List Clause)):=aA (mo a_1)
theorem xw (a_1:List Clause): ∀a,Fin1 fun f=>mo a_1 f a:=by
 unfold mo
 repeat first|intro _|exact aO|exact bv|apply bz|apply bd|apply be|apply bm|apply bA
theorem LO (a_1:List Clause)(x:Int×(List Clause)):sb a_1 x=mo a_1 (sb a_1) x:=bE (xw a_1) x
def zf (a_1:List Clause):Option (List Clause):=
 (uo 144 (Clause.mk [] 0 0 [] 0 0 (Condition.mk 0 [] 0 []) 0 []) (len a_1)).bind fun m2=>bg (ρ:=(List Clause)) (sb a_1 (0,m2)) fun u7:(List Clause)=>some u7
def rh (a_1:Contract):Option Contract:=
 (zl a_1.Parties).bind fun r2=>(zf a_1.Clauses).bind fun r3=>some (Contract.mk r2 r3)
def eN (x_1:Int)(a_2:Int)(b_3:Int):Option Bool:=
 di (bif (decide (x_1≥a_2)) then (decide (x_1≤b_3)) else false) fun u4:Bool=>some u4
def vo (b_1:Int):Option Bool:=
 di (bif (decide (b_1≥97)) then (di (bif (decide (b_1≤122)) then true else (di (bif (decide (b_1≥48)) then (decide (b_1≤57)) else false) fun u4:Bool=>u4)) fun u3:Bool=>u3) else (di (bif (decide (b_1≥48)) then (decide (b_1≤57)) else false) fun u5:Bool=>u5)) fun u2:Bool=>some u2
def my (s_1:ac)(self:Int→Option (Bool⊕Unit))(x4:Int):Option (Bool⊕Unit):=
 bif (decide (x4<(len s_1))) then ((aK s_1 x4).bind fun c5=>(vo (c5.toNat:Int)).bind fun r6=>bif (!r6) then (some (.inl false)) else (self (aj (x4+1)))) else (some (.inr ()))
def sr (s_1:ac): Int→Option (Bool⊕Unit):=aA (my s_1)
theorem xM (s_1:ac): ∀a,Fin1 fun f=>my s_1 f a:=by
 unfold my
 repeat first|intro _|exact aO|exact bv|apply bz|apply bd|apply be|apply bm|apply bA
theorem LU (s_1:ac)(x:Int):sr s_1 x=my s_1 (sr s_1) x:=bE (xM s_1) x
def rk (s_1:ac):Option Bool:=
 (eN (len s_1) 1 8).bind fun r2=>bg (ρ:=Bool) (bif (!r2) then (some (.inr true)) else ((aK s_1 0).bind fun c16=>ct (ρ:=Bool) (bif (decide ((c16.toNat:Int)<97)) then (some (.inr true)) else ((aK s_1 0).bind fun c18=>some (.inr (decide ((c18.toNat:Int)>122))))) fun u17:Bool=>some (.inr u17))) fun u3:Bool=>bif u3 then (some false) else (bg (ρ:=Bool) (sr s_1 0) fun u7:Unit=>di (bif (s_1==([116,114,117,101]:ac)) then (s_1==([116,114,117,101]:ac)) else (di (bif (s_1==([102,114,111,109]:ac)) then (s_1==([102,114,111,109]:ac)) else (di (bif (s_1==([110,111,116]:ac)) then (s_1==([110,111,116]:ac)) else (di (bif (s_1==([97,110,100]:ac)) then (s_1==([97,110,100]:ac)) else (di (bif (s_1==([111,114]:ac)) then (s_1==([111,114]:ac)) else (di (bif (s_1==([98,111,116,104]:ac)) then (s_1==([98,111,116,104]:ac)) else (di (bif (s_1==([101,105,116,104,101,114]:ac)) then (s_1==([101,105,116,104,101,114]:ac)) else (di (bif (s_1==([105,116]:ac)) then (s_1==([105,116]:ac)) else (s_1==([105,110]:ac))) fun u15:Bool=>u15)) fun u14:Bool=>u14)) fun u13:Bool=>u13)) fun u12:Bool=>u12)) fun u11:Bool=>u11)) fun u10:Bool=>u10)) fun u9:Bool=>u9)) fun u8:Bool=>bif u8 then (some false) else (some true))
def kC (bl:List ac)(ew:ac)(self:Int→Option (Bool⊕Unit))(x3:Int):Option (Bool⊕Unit):=
 bif (decide (x3<(len bl))) then ((aK bl x3).bind fun e4=>bif (e4==ew) then (some (.inl true)) else (self (aj (x3+1)))) else (some (.inr ()))
def pP (bl:List ac)(ew:ac): Int→Option (Bool⊕Unit):=aA (kC bl ew)
theorem xJ (bl:List ac)(ew:ac): ∀a,Fin1 fun f=>kC bl ew f a:=by
 unfold kC
 repeat first|intro _|exact aO|exact bv|apply bz|apply bd|apply be|apply bm|apply bA
theorem Ce (bl:List ac)(ew:ac)(x:Int):pP bl ew x=kC bl ew (pP bl ew) x:=bE (xJ bl ew) x
def rj (bl:List ac)(ew:ac):Option Bool:=
 bg (ρ:=Bool) (pP bl ew 0) fun u5:Unit=>some false
def kK (c_1:Contract)(self:Int→Option (Bool⊕Unit))(x2:Int):Option (Bool⊕Unit):=
 bif (decide (x2<(len c_1.Parties))) then ((aK c_1.Parties x2).bind fun e3=>(rk e3).bind fun r4=>ct (ρ:=Bool) (bif (!r4) then (some (.inr true)) else ((qC c_1.Parties 0 x2).bind fun s6=>(aK c_1.Parties x2).bind fun e7=>(rj s6 e7).bind fun r8=>some (.inr r8))) fun u5:Bool=>bif u5 then (some (.inl false)) else (self (aj (x2+1)))) else (some (.inr ()))
def sE (c_1:Contract): Int→Option (Bool⊕Unit):=aA (kK c_1)
theorem xU (c_1:Contract): ∀a,Fin1 fun f=>kK c_1 f a:=by
 unfold kK
 repeat first|intro _|exact aO|exact bv|apply bz|apply bd|apply be|apply bm|apply bA
theorem CT (c_1:Contract)(x:Int):sE c_1 x=kK c_1 (sE c_1) x:=bE (xU c_1) x
def vy (c_1:Contract):Option Bool:=
 bg (ρ:=Bool) (sE c_1 0) fun u9:Unit=>(eN (len c_1.Parties) 2 4).bind fun r10=>some r10
def mA (c_1:Contract)(eG:ac)(self:Int→Option (Int⊕Unit))(x3:Int):Option (Int⊕Unit):=
 bif (decide (x3<(len c_1.Clauses))) then ((aK c_1.Clauses x3).bind fun e4=>bif (e4.Id==eG) then (some (.inl x3)) else (self (aj (x3+1)))) else (some (.inr ()))
def sB (c_1:Contract)(eG:ac): Int→Option (Int⊕Unit):=aA (mA c_1 eG)
theorem xR (c_1:Contract)(eG:ac): ∀a,Fin1 fun f=>mA c_1 eG f a:=by
 unfold mA
 repeat first|intro _|exact aO|exact bv|apply bz|apply bd|apply be|apply bm|apply bA
theorem LV (c_1:Contract)(eG:ac)(x:Int):sB c_1 eG x=mA c_1 eG (sB c_1 eG) x:=bE (xR c_1 eG) x
def tn (c_1:Contract)(eG:ac):Option Int:=
 bg (ρ:=Int) (sB c_1 eG 0) fun u5:Unit=>some (-1)
def Ew (gy:Int):Option Bool:=
 (eN gy 0 36524).bind fun r2=>some r2
def zD (c_1:Condition):Option Bool:=
 bif (c_1.Op==1) then (di (bif ((len c_1.Parts)==0) then (di (bif (c_1.Name==([]:ac)) then (c_1.Day==0) else false) fun u3:Bool=>u3) else false) fun u2:Bool=>some u2) else (bif (c_1.Op==2) then (bg (ρ:=Bool) (bif ((len c_1.Parts)==0) then ((rk c_1.Name).bind fun r5=>di (bif r5 then (c_1.Day==0) else false) fun u6:Bool=>some (.inr u6)) else (some (.inr false))) fun u4:Bool=>some u4) else (bif (c_1.Op==3) then (bg (ρ:=Bool) (bif ((len c_1.Parts)==0) then (ct (ρ:=Bool) (bif (c_1.Name==([]:ac)) then ((Ew c_1.Day).bind fun r9=>some (.inr r9)) else (some (.inr false))) fun u8:Bool=>some (.inr u8)) else (some (.inr false))) fun u7:Bool=>some u7) else (bif (c_1.Op==4) then (di (bif ((len c_1.Parts)==1) then (di (bif (c_1.Name==([]:ac)) then (c_1.Day==0) else false) fun u11:Bool=>u11) else false) fun u10:Bool=>some u10) else (di (bif (c_1.Op==5) then (c_1.Op==5) else (c_1.Op==6)) fun u12:Bool=>bif u12 then (di (bif ((len c_1.Parts)==2) then (di (bif (c_1.Name==([]:ac)) then (c_1.Day==0) else false) fun u14:Bool=>u14) else false) fun u13:Bool=>some u13) else (some false)))))
def kB (ca:Condition→Option Bool)(c_1:Condition)(self:Int→Option (Bool⊕Unit))(x3:Int):Option (Bool⊕Unit):=
 bif (decide (x3<(len c_1.Parts))) then ((aK c_1.Parts x3).bind fun e4=>(ca e4).bind fun r5=>bif (!r5) then (some (.inl false)) else (self (aj (x3+1)))) else (some (.inr ()))
def pO (ca:Condition→Option Bool)(c_1:Condition): Int→Option (Bool⊕Unit):=aA (kB ca c_1)
theorem xI (ca:Condition→Option Bool)(c_1:Condition): ∀a,Fin1 fun f=>kB ca c_1 f a:=by
 unfold kB
 repeat first|intro _|exact aO|exact bv|apply bz|apply bd|apply be|apply bm|apply bA
theorem LT (ca:Condition→Option Bool)(c_1:Condition)(x:Int):pO ca c_1 x=kB ca c_1 (pO ca c_1) x:=bE (xI ca c_1) x
def sk (ca:Condition→Option Bool)(c_1:Condition):Option Bool:=
 (zD c_1).bind fun r2=>bif (!r2) then (some false) else (bg (ρ:=Bool) (pO ca c_1 0) fun u6:Unit=>some true)
def pZ (ca:Condition→Option Bool)(x:Condition):Option Bool:=sk ca x
def Ex (c_1:Condition):Option Bool:=aA pZ c_1
theorem Rq:∀x,Fin1 fun ca=>pZ ca x:=by
 unfold pZ sk
 repeat first|intro _|exact aO|exact bv|exact hZ|exact jg|exact gm|exact ie|exact gE|exact gF|apply bz|apply bd|apply be|apply bm|apply bA|apply nm|unfold pO|unfold kB
theorem TU (c_1:Condition):Ex c_1=sk (aA pZ) c_1:=bE Rq c_1
def jt (cd:Condition→Option Int)(c_1:Condition)(self:(Int×Int)→Option (Int⊕Int))(x2:Int×Int):Option (Int⊕Int):=
 bif (decide (x2.2<(len c_1.Parts))) then ((aK c_1.Parts x2.2).bind fun e3=>(cd e3).bind fun r4=>self ((aj (x2.1+r4)),(aj (x2.2+1)))) else (some (.inr x2.1))
def lh (cd:Condition→Option Int)(c_1:Condition): (Int×Int)→Option (Int⊕Int):=aA (jt cd c_1)
theorem xP (cd:Condition→Option Int)(c_1:Condition): ∀a,Fin1 fun f=>jt cd c_1 f a:=by
 unfold jt
 repeat first|intro _|exact aO|exact bv|apply bz|apply bd|apply be|apply bm|apply bA
theorem Cx (cd:Condition→Option Int)(c_1:Condition)(x:Int×Int):lh cd c_1 x=jt cd c_1 (lh cd c_1) x:=bE (xP cd c_1) x
def sx (cd:Condition→Option Int)(c_1:Condition):Option Int:=
 bg (ρ:=Int) (lh cd c_1 (1,0)) fun u5:Int=>some u5
def kG (cd:Condition→Option Int)(x:Condition):Option Int:=sx cd x
def H4 (c_1:Condition):Option Int:=aA kG c_1
theorem RD:∀x,Fin1 fun cd=>kG cd x:=by
 unfold kG sx
 repeat first|intro _|exact aO|exact bv|exact hZ|exact jg|exact gm|exact ie|exact gE|exact gF|apply bz|apply bd|apply be|apply bm|apply bA|apply nm|unfold lh|unfold jt
theorem TV (c_1:Condition):H4 c_1=sx (aA kG) c_1:=bE RD c_1
def zG (c_1:Condition):Option Bool:=
 (Ex c_1).bind fun r2=>bg (ρ:=Bool) (bif r2 then ((H4 c_1).bind fun r4=>some (.inr (decide (r4≤15)))) else (some (.inr false))) fun u3:Bool=>some u3
def zN (c_1:Contract)(i_2:Int):Option Bool:=
 (aK c_1.Clauses i_2).bind fun e3=>(rk e3.Id).bind fun r4=>bg (ρ:=Bool) (bif (!r4) then (some (.inr true)) else ((rk e3.Action).bind fun r17=>ct (ρ:=Bool) (bif (!r17) then (some (.inr true)) else ((eN e3.Kind 1 4).bind fun r19=>ct (ρ:=Bool) (bif (!r19) then (some (.inr true)) else ((eN e3.Party 0 (aj ((len c_1.Parties) - 1))).bind fun r21=>ct (ρ:=Bool) (bif (!r21) then (some (.inr true)) else ((eN e3.Other 0 (aj ((len c_1.Parties) - 1))).bind fun r23=>ct (ρ:=Bool) (bif (!r23) then (some (.inr true)) else (ct (ρ:=Bool) (bif (e3.Party==e3.Other) then (some (.inr true)) else ((zG e3.When).bind fun r26=>some (.inr (!r26)))) fun u25:Bool=>some (.inr u25))) fun u24:Bool=>some (.inr u24))) fun u22:Bool=>some (.inr u22))) fun u20:Bool=>some (.inr u20))) fun u18:Bool=>some (.inr u18))) fun u5:Bool=>bif u5 then (some false) else ((eN e3.Amount 0 1000000).bind fun r6=>bg (ρ:=Bool) (bif (!r6) then (some (.inr true)) else ((eN e3.Within 0 400).bind fun r13=>di (bif (!r13) then true else (di (bif (e3.Kind != 1) then (di (bif (e3.Amount != 0) then true else (e3.Within != 0)) fun u16:Bool=>u16) else false) fun u15:Bool=>u15)) fun u14:Bool=>some (.inr u14))) fun u7:Bool=>bif u7 then (some false) else (bif (e3.Repair==([]:ac)) then (some true) else ((tn c_1 e3.Repair).bind fun r8=>bg (ρ:=Bool) (bif (decide (r8≥0)) then (ct (ρ:=Bool) (bif (r8 != i_2) then ((aK c_1.Clauses r8).bind fun e11=>di (bif (e11.Kind==1) then (e3.Kind != 3) else false) fun u12:Bool=>some (.inr u12)) else (some (.inr false))) fun u10:Bool=>some (.inr u10)) else (some (.inr false))) fun u9:Bool=>some u9)))
def kF (l_8:List ac)(s_9:ac)(self:Int→Option ((List ac)⊕(ac×Int×(List ac))))(x3:Int):Option ((List ac)⊕(ac×Int×(List ac))):=
 ct (ρ:=(List ac)) (bif (decide (x3<(len l_8))) then ((aK l_8 x3).bind fun e5=>some (.inr (Op.bytesLess e5 s_9))) else (some (.inr false))) fun u4:Bool=>bif u4 then (self (aj (x3+1))) else (some (.inr (s_9,x3,l_8)))
def sv (l_8:List ac)(s_9:ac): Int→Option ((List ac)⊕(ac×Int×(List ac))):=aA (kF l_8 s_9)
theorem xO (l_8:List ac)(s_9:ac): ∀a,Fin1 fun f=>kF l_8 s_9 f a:=by
 unfold kF
 repeat first|intro _|exact aO|exact bv|apply bz|apply bd|apply be|apply bm|apply bA
theorem Ct (l_8:List ac)(s_9:ac)(x:Int):sv l_8 s_9 x=kF l_8 s_9 (sv l_8 s_9) x:=bE (xO l_8 s_9) x
def vm (l_8:List ac)(s_9:ac):Option (List ac):=
 bg (ρ:=(List ac)) (sv l_8 s_9 0) fun u6:ac×Int×(List ac)=>bg (ρ:=(List ac)) (bif (decide (u6.2.1<(len u6.2.2))) then ((aK u6.2.2 u6.2.1).bind fun e15=>some (.inr (e15==u6.1))) else (some (.inr false))) fun u7:Bool=>bif u7 then (some u6.2.2) else ((gx u6.2.2.length 0 u6.2.1).bind fun s8=>(ga u6.2.2 (0+Int.toNat (0)) (Int.toNat u6.2.1 - Int.toNat (0))).bind fun p9=>(fy 16 ([]:List ac) p9).bind fun a10=>(fy 16 a10 [u6.1]).bind fun a11=>(gx u6.2.2.length u6.2.1 (len u6.2.2)).bind fun s12=>(ga u6.2.2 (0+Int.toNat u6.2.1) (Int.toNat (len u6.2.2) - Int.toNat u6.2.1)).bind fun p13=>(fy 16 a11 p13).bind fun a14=>some a14)
def iz (cb:((List ac)×Condition)→Option (List ac))(l_4:List ac)(c_5:Condition)(self:(Int×(List ac))→Option ((List ac)⊕(List ac)))(x4:Int×(List ac)):Option ((List ac)⊕(List ac)):=
 bif (decide (x4.1<(len c_5.Parts))) then ((aK c_5.Parts x4.1).bind fun e5=>(cb (x4.2,e5)).bind fun r6=>self ((aj (x4.1+1)),r6)) else (some (.inr x4.2))
def i9 (cb:((List ac)×Condition)→Option (List ac))(l_4:List ac)(c_5:Condition): (Int×(List ac))→Option ((List ac)⊕(List ac)):=aA (iz cb l_4 c_5)
theorem xN (cb:((List ac)×Condition)→Option (List ac))(l_4:List ac)(c_5:Condition): ∀a,Fin1 fun f=>iz cb l_4 c_5 f a:=by
 unfold iz
 repeat first|intro _|exact aO|exact bv|apply bz|apply bd|apply be|apply bm|apply bA
theorem pr (cb:((List ac)×Condition)→Option (List ac))(l_4:List ac)(c_5:Condition)(x:Int×(List ac)):i9 cb l_4 c_5 x=iz cb l_4 c_5 (i9 cb l_4 c_5) x:=bE (xN cb l_4 c_5) x
def ss (cb:((List ac)×Condition)→Option (List ac))(l_4:List ac)(c_5:Condition):Option (List ac):=
 bif (c_5.Op==2) then ((vm l_4 c_5.Name).bind fun r3=>some r3) else (bg (ρ:=(List ac)) (i9 cb l_4 c_5 (0,l_4)) fun u7:(List ac)=>some u7)
def ib (cb:((List ac)×Condition)→Option (List ac))(x:(List ac)×Condition):Option (List ac):=ss cb x.1 x.2
def qc (l_4:List ac)(c_5:Condition):Option (List ac):=aA ib (l_4,c_5)
theorem Rz:∀x,Fin1 fun cb=>ib cb x:=by
 unfold ib ss
 repeat first|intro _|exact aO|exact bv|exact hZ|exact jg|exact gm|exact ie|exact gE|exact gF|apply bz|apply bd|apply be|apply bm|apply bA|apply nm|unfold i9|unfold iz
theorem K1 (l_4:List ac)(c_5:Condition):qc l_4 c_5=ss (aA ib) l_4 c_5:=bE Rz (l_4,c_5)
def kJ (c_1:Contract)(self:(Int×(List ac))→Option ((List ac)⊕(List ac)))(x2:Int×(List ac)):Option ((List ac)⊕(List ac)):=
 bif (decide (x2.1<(len c_1.Clauses))) then ((aK c_1.Clauses x2.1).bind fun e3=>(vm x2.2 e3.Action).bind fun r4=>(aK c_1.Clauses x2.1).bind fun e5=>(qc r4 e5.When).bind fun r6=>self ((aj (x2.1+1)),r6)) else (some (.inr x2.2))
def mB (c_1:Contract): (Int×(List ac))→Option ((List ac)⊕(List ac)):=aA (kJ c_1)
theorem xT (c_1:Contract): ∀a,Fin1 fun f=>kJ c_1 f a:=by
 unfold kJ
 repeat first|intro _|exact aO|exact bv|apply bz|apply bd|apply be|apply bm|apply bA
theorem CP (c_1:Contract)(x:Int×(List ac)):mB c_1 x=kJ c_1 (mB c_1) x:=bE (xT c_1) x
def tq (c_1:Contract):Option (List ac):=
 bg (ρ:=(List ac)) (mB c_1 (0,[])) fun u7:(List ac)=>some u7
def kI (c_1:Contract)(self:Int→Option (Bool⊕Unit))(x4:Int):Option (Bool⊕Unit):=
 bif (decide (x4<(len c_1.Clauses))) then ((aK c_1.Clauses x4).bind fun e5=>(tn c_1 e5.Id).bind fun r6=>ct (ρ:=Bool) (bif (r6 != x4) then (some (.inr true)) else ((zN c_1 x4).bind fun r8=>some (.inr (!r8)))) fun u7:Bool=>bif u7 then (some (.inl false)) else (self (aj (x4+1)))) else (some (.inr ()))
def li (c_1:Contract): Int→Option (Bool⊕Unit):=aA (kI c_1)
theorem xS (c_1:Contract): ∀a,Fin1 fun f=>kI c_1 f a:=by
 unfold kI
 repeat first|intro _|exact aO|exact bv|apply bz|apply bd|apply be|apply bm|apply bA
theorem CM (c_1:Contract)(x:Int):li c_1 x=kI c_1 (li c_1) x:=bE (xS c_1) x
def zQ (c_1:Contract):Option Bool:=
 (eN (len c_1.Clauses) 1 12).bind fun r2=>bg (ρ:=Bool) (bif (!r2) then (some (.inr true)) else ((vy c_1).bind fun r11=>some (.inr (!r11)))) fun u3:Bool=>bif u3 then (some false) else (bg (ρ:=Bool) (li c_1 0) fun u9:Unit=>(tq c_1).bind fun r10=>some (decide ((len r10)≤16)))
def Ev (a_1:Clause)(b_2:Clause):Option Bool:=
 di (bif (a_1.Party==b_2.Party) then (a_1.Action==b_2.Action) else false) fun u3:Bool=>some u3
def ri (a_1:Condition)(b_2:Condition):Option Bool:=
 (qc [] a_1).bind fun r3=>(qc r3 b_2).bind fun r4=>some (decide ((len r4)≤10))
def kA (l_8:List Int)(n_9:Int)(self:Int→Option ((List Int)⊕(Int×Int×(List Int))))(x3:Int):Option ((List Int)⊕(Int×Int×(List Int))):=
 ct (ρ:=(List Int)) (bif (decide (x3<(len l_8))) then ((aK l_8 x3).bind fun e5=>some (.inr (decide (e5<n_9)))) else (some (.inr false))) fun u4:Bool=>bif u4 then (self (aj (x3+1))) else (some (.inr (n_9,x3,l_8)))
def si (l_8:List Int)(n_9:Int): Int→Option ((List Int)⊕(Int×Int×(List Int))):=aA (kA l_8 n_9)
theorem xG (l_8:List Int)(n_9:Int): ∀a,Fin1 fun f=>kA l_8 n_9 f a:=by
 unfold kA
 repeat first|intro _|exact aO|exact bv|apply bz|apply bd|apply be|apply bm|apply bA
theorem B3 (l_8:List Int)(n_9:Int)(x:Int):si l_8 n_9 x=kA l_8 n_9 (si l_8 n_9) x:=bE (xG l_8 n_9) x
def uT (l_8:List Int)(n_9:Int):Option (List Int):=
 bg (ρ:=(List Int)) (si l_8 n_9 0) fun u6:Int×Int×(List Int)=>bg (ρ:=(List Int)) (bif (decide (u6.2.1<(len u6.2.2))) then ((aK u6.2.2 u6.2.1).bind fun e15=>some (.inr (e15==u6.1))) else (some (.inr false))) fun u7:Bool=>bif u7 then (some u6.2.2) else ((gx u6.2.2.length 0 u6.2.1).bind fun s8=>(ga u6.2.2 (0+Int.toNat (0)) (Int.toNat u6.2.1 - Int.toNat (0))).bind fun p9=>(fy 8 ([]:List Int) p9).bind fun a10=>(fy 8 a10 [u6.1]).bind fun a11=>(gx u6.2.2.length u6.2.1 (len u6.2.2)).bind fun s12=>(ga u6.2.2 (0+Int.toNat u6.2.1) (Int.toNat (len u6.2.2) - Int.toNat u6.2.1)).bind fun p13=>(fy 8 a11 p13).bind fun a14=>some a14)
def iy (b9:((List Int)×Condition)→Option (List Int))(l_4:List Int)(c_5:Condition)(self:(Int×(List Int))→Option ((List Int)⊕(List Int)))(x4:Int×(List Int)):Option ((List Int)⊕(List Int)):=
 bif (decide (x4.1<(len c_5.Parts))) then ((aK c_5.Parts x4.1).bind fun e5=>(b9 (x4.2,e5)).bind fun r6=>self ((aj (x4.1+1)),r6)) else (some (.inr x4.2))
def iY (b9:((List Int)×Condition)→Option (List Int))(l_4:List Int)(c_5:Condition): (Int×(List Int))→Option ((List Int)⊕(List Int)):=aA (iy b9 l_4 c_5)
theorem xH (b9:((List Int)×Condition)→Option (List Int))(l_4:List Int)(c_5:Condition): ∀a,Fin1 fun f=>iy b9 l_4 c_5 f a:=by
 unfold iy
 repeat first|intro _|exact aO|exact bv|apply bz|apply bd|apply be|apply bm|apply bA
theorem pq (b9:((List Int)×Condition)→Option (List Int))(l_4:List Int)(c_5:Condition)(x:Int×(List Int)):iY b9 l_4 c_5 x=iy b9 l_4 c_5 (iY b9 l_4 c_5) x:=bE (xH b9 l_4 c_5) x
def sj (b9:((List Int)×Condition)→Option (List Int))(l_4:List Int)(c_5:Condition):Option (List Int):=
 bif (c_5.Op==3) then ((uT l_4 c_5.Day).bind fun r3=>some r3) else (bg (ρ:=(List Int)) (iY b9 l_4 c_5 (0,l_4)) fun u7:(List Int)=>some u7)
def ia (b9:((List Int)×Condition)→Option (List Int))(x:(List Int)×Condition):Option (List Int):=sj b9 x.1 x.2
def uV (l_4:List Int)(c_5:Condition):Option (List Int):=aA ia (l_4,c_5)
theorem Rn:∀x,Fin1 fun b9=>ia b9 x:=by
 unfold ia sj
 repeat first|intro _|exact aO|exact bv|exact hZ|exact jg|exact gm|exact ie|exact gE|exact gF|apply bz|apply bd|apply be|apply bm|apply bA|apply nm|unfold iY|unfold iy
theorem KT (l_4:List Int)(c_5:Condition):uV l_4 c_5=sj (aA ia) l_4 c_5:=bE Rn (l_4,c_5)
def kH (du:List ac)(ec:Int)(self:(Int×(List ac))→Option ((List ac)⊕(List ac)))(x3:Int×(List ac)):Option ((List ac)⊕(List ac)):=
 bif (decide (x3.1<(len du))) then ((Fc .i64 ec (IntKind.u64.wrap x3.1)).bind fun q4=>ct (ρ:=(List ac)) (bif ((II .i64 q4 1)==1) then ((aK du x3.1).bind fun e6=>(fy 16 x3.2 [e6]).bind fun a7=>some (.inr a7)) else (some (.inr x3.2))) fun u5:(List ac)=>self ((aj (x3.1+1)),u5)) else (some (.inr x3.2))
def pR (du:List ac)(ec:Int): (Int×(List ac))→Option ((List ac)⊕(List ac)):=aA (kH du ec)
theorem xQ (du:List ac)(ec:Int): ∀a,Fin1 fun f=>kH du ec f a:=by
 unfold kH
 repeat first|intro _|exact aO|exact bv|apply bz|apply bd|apply be|apply bm|apply bA
theorem CB (du:List ac)(ec:Int)(x:Int×(List ac)):pR du ec x=kH du ec (pR du ec) x:=bE (xQ du ec) x
def rm (du:List ac)(ec:Int):Option (List ac):=
 bg (ρ:=(List ac)) (pR du ec (0,[])) fun u8:(List ac)=>some u8
def sn (cj:(Condition×(List ac)×Int)→Option Bool)(c_1:Condition)(bf:List ac)(bT:Int):Option Bool:=
 bif (c_1.Op==1) then (some true) else (bif (c_1.Op==2) then ((rj bf c_1.Name).bind fun r4=>some r4) else (bif (c_1.Op==3) then (some (decide (bT≥c_1.Day))) else (bif (c_1.Op==4) then ((aK c_1.Parts 0).bind fun e5=>(cj (e5,bf,bT)).bind fun r6=>some (!r6)) else (bif (c_1.Op==5) then ((aK c_1.Parts 0).bind fun e7=>(cj (e7,bf,bT)).bind fun r8=>bg (ρ:=Bool) (bif r8 then ((aK c_1.Parts 1).bind fun e10=>(cj (e10,bf,bT)).bind fun r11=>some (.inr r11)) else (some (.inr false))) fun u9:Bool=>some u9) else ((aK c_1.Parts 0).bind fun e12=>(cj (e12,bf,bT)).bind fun r13=>bg (ρ:=Bool) (bif r13 then (some (.inr true)) else ((aK c_1.Parts 1).bind fun e15=>(cj (e15,bf,bT)).bind fun r16=>some (.inr r16))) fun u14:Bool=>some u14)))))
def i7 (cj:(Condition×(List ac)×Int)→Option Bool)(x:Condition×(List ac)×Int):Option Bool:=sn cj x.1 x.2.1 x.2.2
def tj (c_1:Condition)(bf:List ac)(bT:Int):Option Bool:=aA i7 (c_1,bf,bT)
theorem Ru:∀x,Fin1 fun cj=>i7 cj x:=by
 unfold i7 sn
 repeat first|intro _|exact aO|exact bv|apply bz|apply bd|apply be|apply bm|apply bA
theorem KZ (c_1:Condition)(bf:List ac)(bT:Int):tj c_1 bf bT=sn (aA i7) c_1 bf bT:=bE Ru (c_1,bf,bT)
def kE (a_1:Condition)(b_2:Condition)(r7:(List Int))(r10:(List ac))(r4:(List ac))(x8:Int)(self:Int→Option (Bool⊕Unit))(x11:Int):Option (Bool⊕Unit):=
 bif (decide (x11<(len r7))) then ((aK r7 x11).bind fun e12=>(tj a_1 r10 e12).bind fun r13=>ct (ρ:=Bool) (bif r13 then ((aK r7 x11).bind fun e15=>(tj b_2 r10 e15).bind fun r16=>some (.inr (!r16))) else (some (.inr false))) fun u14:Bool=>bif u14 then (some (.inl false)) else (self (aj (x11+1)))) else (some (.inr ()))
def mt (a_1:Condition)(b_2:Condition)(r7:(List Int))(r10:(List ac))(r4:(List ac))(x8:Int):Int→Option (Bool⊕Unit):=aA (kE a_1 b_2 r7 r10 r4 x8)
theorem xL (a_1:Condition)(b_2:Condition)(r7:(List Int))(r10:(List ac))(r4:(List ac))(x8:Int):∀a,Fin1 fun f=>kE a_1 b_2 r7 r10 r4 x8 f a:=by
 unfold kE
 repeat first|intro _|exact aO|exact bv|apply bz|apply bd|apply be|apply bm|apply bA
theorem Cn (a_1:Condition)(b_2:Condition)(r7:(List Int))(r10:(List ac))(r4:(List ac))(x8:Int)(x:Int):mt a_1 b_2 r7 r10 r4 x8 x=kE a_1 b_2 r7 r10 r4 x8 (mt a_1 b_2 r7 r10 r4 x8) x:=bE (xL a_1 b_2 r7 r10 r4 x8) x
def kD (a_1:Condition)(b_2:Condition)(r4:(List ac))(r7:(List Int))(self:Int→Option (Bool⊕Unit))(x8:Int):Option (Bool⊕Unit):=
 (AE .i64 1 (IntKind.u64.wrap (len r4))).bind fun q9=>bif (decide (x8<q9)) then ((rm r4 x8).bind fun r10=>ct (ρ:=Bool) (mt a_1 b_2 r7 r10 r4 x8 0) fun u17:Unit=>self (aj (x8+1))) else (some (.inr ()))
def mr (a_1:Condition)(b_2:Condition)(r4:(List ac))(r7:(List Int)):Int→Option (Bool⊕Unit):=aA (kD a_1 b_2 r4 r7)
theorem xK (a_1:Condition)(b_2:Condition)(r4:(List ac))(r7:(List Int)):∀a,Fin1 fun f=>kD a_1 b_2 r4 r7 f a:=by
 unfold kD
 repeat first|intro _|exact aO|exact bv|apply bz|apply bd|apply be|apply bm|apply bA
theorem Cm (a_1:Condition)(b_2:Condition)(r4:(List ac))(r7:(List Int))(x:Int):mr a_1 b_2 r4 r7 x=kD a_1 b_2 r4 r7 (mr a_1 b_2 r4 r7) x:=bE (xK a_1 b_2 r4 r7) x
def Ey (a_1:Condition)(b_2:Condition):Option Bool:=
 (qc [] a_1).bind fun r3=>(qc r3 b_2).bind fun r4=>(uV [] a_1).bind fun r5=>(uV r5 b_2).bind fun r6=>(uT r6 0).bind fun r7=>bg (ρ:=Bool) (mr a_1 b_2 r4 r7 0) fun u18:Unit=>some true
def tf (a_1:Condition)(b_2:Condition):Option Bool:=
 (Ey a_1 (Condition.mk 4 [] 0 [b_2])).bind fun r3=>some (!r3)
def kz (c_1:Contract)(x_2:Clause)(br:Int)(self:(Int×Int)→Option (Int⊕Int))(x4:Int×Int):Option (Int⊕Int):=
 bif (decide (x4.2<(len c_1.Clauses))) then ((aK c_1.Clauses x4.2).bind fun e5=>ct (ρ:=Int) (bif (e5.Kind != br) then (some (.inr true)) else ((Ev x_2 e5).bind fun r10=>some (.inr (!r10)))) fun u6:Bool=>bif u6 then (self (x4.1,(aj (x4.2+1)))) else ((ri x_2.When e5.When).bind fun r7=>bif (!r7) then (some (.inl (-1))) else ((tf x_2.When e5.When).bind fun r8=>di (bif r8 then (1) else x4.1) fun u9:Int=>self (u9,(aj (x4.2+1)))))) else (some (.inr x4.1))
def jQ (c_1:Contract)(x_2:Clause)(br:Int): (Int×Int)→Option (Int⊕Int):=aA (kz c_1 x_2 br)
theorem xF (c_1:Contract)(x_2:Clause)(br:Int): ∀a,Fin1 fun f=>kz c_1 x_2 br f a:=by
 unfold kz
 repeat first|intro _|exact aO|exact bv|apply bz|apply bd|apply be|apply bm|apply bA
theorem B0 (c_1:Contract)(x_2:Clause)(br:Int)(x:Int×Int):jQ c_1 x_2 br x=kz c_1 x_2 br (jQ c_1 x_2 br) x:=bE (xF c_1 x_2 br) x
def zy (c_1:Contract)(x_2:Clause)(br:Int):Option Int:=
 bg (ρ:=Int) (jQ c_1 x_2 br (0,0)) fun u11:Int=>some u11
def ky (c_1:Contract)(self:(Int×(List Int))→Option (((List Int)×Bool)⊕(List Int)))(x3:Int×(List Int)):Option (((List Int)×Bool)⊕(List Int)):=
 bif (decide (x3.1<(len c_1.Clauses))) then ((aK c_1.Clauses x3.1).bind fun e4=>bif (e4.Kind != 3) then (self ((aj (x3.1+1)),x3.2)) else ((aK c_1.Clauses x3.1).bind fun e5=>(zy c_1 e5 2).bind fun r6=>bif (r6==(-1)) then (some (.inl ([],false))) else (ct (ρ:=(List Int)×Bool) (bif (r6==0) then ((fy 8 x3.2 [x3.1]).bind fun a8=>some (.inr a8)) else (some (.inr x3.2))) fun u7:(List Int)=>self ((aj (x3.1+1)),u7)))) else (some (.inr x3.2))
def pN (c_1:Contract): (Int×(List Int))→Option (((List Int)×Bool)⊕(List Int)):=aA (ky c_1)
theorem xE (c_1:Contract): ∀a,Fin1 fun f=>ky c_1 f a:=by
 unfold ky
 repeat first|intro _|exact aO|exact bv|apply bz|apply bd|apply be|apply bm|apply bA
theorem BQ (c_1:Contract)(x:Int×(List Int)):pN c_1 x=ky c_1 (pN c_1) x:=bE (xE c_1) x
def zr (c_1:Contract):Option ((List Int)×Bool):=
 (zQ c_1).bind fun r2=>bif (!r2) then (some ([],false)) else (bg (ρ:=(List Int)×Bool) (pN c_1 (0,[])) fun u9:(List Int)=>some (u9,true))
def nI (n_1:Int)(nr:Int)(kU:Int):Option Bool:=
 di (bif (decide (n_1≥nr)) then (decide (n_1≤kU)) else false) fun u4:Bool=>some u4
def Pt (s_1:ac)(c_2:Int):Option Int:=
 (qD s_1 c_2).bind fun r3=>some r3
def Ps (s_1:ac)(aN:ac):Option Int:=
 di (bif ((len aN)==0) then true else (aN==s_1)) fun u3:Bool=>bif u3 then (some 0) else (bif ((len aN)==1) then ((aK aN 0).bind fun c4=>(Pt s_1 (c4.toNat:Int)).bind fun r5=>some r5) else (bif (decide ((len aN)≥(len s_1))) then (some (-1)) else none))
def EB (s_1:ac)(aN:ac):Option Int:=
 (Ps s_1 aN).bind fun r3=>some r3
def qI (s_1:ac)(aN:ac)(self:(ac×Int)→Option (Int⊕Unit))(x5:ac×Int):Option (Int⊕Unit):=
 (EB x5.1 aN).bind fun r6=>bif (r6==(-1)) then (some (.inl x5.2)) else ((qC x5.1 (aj (r6+(len aN))) (len x5.1)).bind fun s7=>self (s7,(aj (x5.2+1))))
def K4 (s_1:ac)(aN:ac): (ac×Int)→Option (Int⊕Unit):=aA (qI s_1 aN)
theorem Kv (s_1:ac)(aN:ac): ∀a,Fin1 fun f=>qI s_1 aN f a:=by
 unfold qI
 repeat first|intro _|exact aO|exact bv|apply bz|apply bd|apply be|apply bm|apply bA
def Ic (s_1:ac)(aN:ac):Option Int:=
 bif ((len aN)==0) then none else (bif ((len aN)==1) then ((aK aN 0).bind fun c3=>(wo s_1 (c3.toNat:Int)).bind fun r4=>some r4) else (bg (ρ:=Int) (K4 s_1 aN (s_1,0)) fun u8:Unit=>none))
def qJ (s_1:ac)(dJ:ac)(dl:Int)(n_4:Int)(u5:Int)(self:(ac×Int×(List ac))→Option ((List ac)⊕(ac×Int×(List ac))))(x7:ac×Int×(List ac)):Option ((List ac)⊕(ac×Int×(List ac))):=
 bif (decide (x7.2.1<(aj ((if (aj ((len s_1)+1))<u5 then (aj ((len s_1)+1)) else u5) - 1)))) then ((EB x7.1 dJ).bind fun r8=>bif (decide (r8<0)) then (some (.inr (x7.1,x7.2.1,x7.2.2))) else ((qC x7.1 0 (aj (r8+dl))).bind fun s9=>(aK x7.2.2 x7.2.1).bind fun e10=>(qC x7.1 (aj (r8+(len dJ))) (len x7.1)).bind fun s11=>self (s11,(aj (x7.2.1+1)),(cT x7.2.2 x7.2.1 s9)))) else (some (.inr (x7.1,x7.2.1,x7.2.2)))
def wy (s_1:ac)(dJ:ac)(dl:Int)(n_4:Int)(u5:Int):(ac×Int×(List ac))→Option ((List ac)⊕(ac×Int×(List ac))):=aA (qJ s_1 dJ dl n_4 u5)
theorem xV (s_1:ac)(dJ:ac)(dl:Int)(n_4:Int)(u5:Int):∀a,Fin1 fun f=>qJ s_1 dJ dl n_4 u5 f a:=by
 unfold qJ
 repeat first|intro _|exact aO|exact bv|apply bz|apply bd|apply be|apply bm|apply bA
def Ig (s_1:ac)(dJ:ac)(dl:Int)(n_4:Int):Option (List ac):=
 bif (n_4==0) then (some []) else (bif (dJ==([]:ac)) then none else (bg (ρ:=(List ac)) (bif (decide (n_4<0)) then ((Ic s_1 dJ).bind fun r16=>some (.inr (aj (r16+1)))) else (some (.inr n_4))) fun u5:Int=>(uo 16 [] (if (aj ((len s_1)+1))<u5 then (aj ((len s_1)+1)) else u5)).bind fun m6=>bg (ρ:=(List ac)) (wy s_1 dJ dl n_4 u5 (s_1,0,m6)) fun u12:ac×Int×(List ac)=>(aK u12.2.2 u12.2.1).bind fun e13=>(gx (cT u12.2.2 u12.2.1 u12.1).length 0 (aj (u12.2.1+1))).bind fun s14=>(ga (cT u12.2.2 u12.2.1 u12.1) (0+Int.toNat (0)) (Int.toNat (aj (u12.2.1+1)) - Int.toNat (0))).bind fun p15=>some p15))
def zV (s_1:ac)(dJ:ac):Option (List ac):=
 (Ig s_1 dJ 0 (-1)).bind fun r3=>some r3
def js (s_1:List ac)(v_2:ac)(self:Int→Option (Int⊕Unit))(x3:Int):Option (Int⊕Unit):=
 bif (decide (x3<(len s_1))) then ((aK s_1 x3).bind fun e4=>bif (v_2==e4) then (some (.inl x3)) else (self (aj (x3+1)))) else (some (.inr ()))
def nT (s_1:List ac)(v_2:ac): Int→Option (Int⊕Unit):=aA (js s_1 v_2)
theorem xD (s_1:List ac)(v_2:ac): ∀a,Fin1 fun f=>js s_1 v_2 f a:=by
 unfold js
 repeat first|intro _|exact aO|exact bv|apply bz|apply bd|apply be|apply bm|apply bA
theorem te (s_1:List ac)(v_2:ac)(x:Int):nT s_1 v_2 x=js s_1 v_2 (nT s_1 v_2) x:=bE (xD s_1 v_2) x
def uR (s_1:List ac)(v_2:ac):Option Int:=
 bg (ρ:=Int) (nT s_1 v_2 0) fun u5:Unit=>some (-1)
def nS (s_1:List ac)(v_2:ac):Option Bool:=
 (uR s_1 v_2).bind fun r3=>some (decide (r3≥0))
def nV (s_1:ac)(self:Int→Option (Bool⊕Unit))(x4:Int):Option (Bool⊕Unit):=
 bif (decide (x4<(len s_1))) then ((aK s_1 x4).bind fun c5=>di (bif (decide ((c5.toNat:Int)<97)) then (di (bif (decide ((c5.toNat:Int)<48)) then true else (decide ((c5.toNat:Int)>57))) fun u7:Bool=>u7) else (di (bif (decide ((c5.toNat:Int)>122)) then (di (bif (decide ((c5.toNat:Int)<48)) then true else (decide ((c5.toNat:Int)>57))) fun u9:Bool=>u9) else false) fun u8:Bool=>u8)) fun u6:Bool=>bif u6 then (some (.inl false)) else (self (aj (x4+1)))) else (some (.inr ()))
def vw (s_1:ac): Int→Option (Bool⊕Unit):=aA (nV s_1)
theorem CI (s_1:ac): ∀a,Fin1 fun f=>nV s_1 f a:=by
 unfold nV
 repeat first|intro _|exact aO|exact bv|apply bz|apply bd|apply be|apply bm|apply bA
theorem O8 (s_1:ac)(x:Int):vw s_1 x=nV s_1 (vw s_1) x:=bE (CI s_1) x
def vv (s_1:ac):Option Bool:=
 (nI (len s_1) 1 8).bind fun r2=>bg (ρ:=Bool) (bif (!r2) then (some (.inr true)) else ((aK s_1 0).bind fun c13=>ct (ρ:=Bool) (bif (decide ((c13.toNat:Int)<97)) then (some (.inr true)) else ((aK s_1 0).bind fun c15=>some (.inr (decide ((c15.toNat:Int)>122))))) fun u14:Bool=>some (.inr u14))) fun u3:Bool=>bif u3 then (some false) else (bg (ρ:=Bool) (vw s_1 0) fun u10:Unit=>(zV ([116,114,117,101,32,102,114,111,109,32,110,111,116,32,97,110,100,32,111,114,32,98,111,116,104,32,101,105,116,104,101,114,32,105,116,32,105,110]:ac) ([32]:ac)).bind fun r11=>(nS r11 s_1).bind fun r12=>some (!r12))
def lZ (bl:List ac)(self:Int→Option (Bool⊕Unit))(x2:Int):Option (Bool⊕Unit):=
 bif (decide (x2<(len bl))) then ((aK bl x2).bind fun e3=>(vv e3).bind fun r4=>ct (ρ:=Bool) (bif (!r4) then (some (.inr true)) else ((qC bl 0 x2).bind fun s6=>(nS s6 e3).bind fun r7=>some (.inr r7))) fun u5:Bool=>bif u5 then (some (.inl false)) else (self (aj (x2+1)))) else (some (.inr ()))
def vB (bl:List ac): Int→Option (Bool⊕Unit):=aA (lZ bl)
theorem Dd (bl:List ac): ∀a,Fin1 fun f=>lZ bl f a:=by
 unfold lZ
 repeat first|intro _|exact aO|exact bv|apply bz|apply bd|apply be|apply bm|apply bA
theorem Fv (bl:List ac)(x:Int):vB bl x=lZ bl (vB bl) x:=bE (Dd bl) x
def Im (bl:List ac):Option Bool:=
 bg (ρ:=Bool) (vB bl 0) fun u8:Unit=>(nI (len bl) 2 4).bind fun r9=>some r9
def Pp (x_1:Clause)(a_2:ac):Option Bool:=
 some (x_1.Id==a_2)
def mq (s_1:List Clause)(f_2:ac)(self:Int→Option (Int⊕Unit))(x3:Int):Option (Int⊕Unit):=
 bif (decide (x3<(len s_1))) then ((aK s_1 x3).bind fun e4=>(Pp e4 f_2).bind fun r5=>bif r5 then (some (.inl x3)) else (self (aj (x3+1)))) else (some (.inr ()))
def sf (s_1:List Clause)(f_2:ac): Int→Option (Int⊕Unit):=aA (mq s_1 f_2)
theorem xC (s_1:List Clause)(f_2:ac): ∀a,Fin1 fun f=>mq s_1 f_2 f a:=by
 unfold mq
 repeat first|intro _|exact aO|exact bv|apply bz|apply bd|apply be|apply bm|apply bA
theorem LS (s_1:List Clause)(f_2:ac)(x:Int):sf s_1 f_2 x=mq s_1 f_2 (sf s_1 f_2) x:=bE (xC s_1 f_2) x
def Et (s_1:List Clause)(f_2:ac):Option Int:=
 bg (ρ:=Int) (sf s_1 f_2 0) fun u6:Unit=>some (-1)
def De (c_1:Contract)(eG:ac):Option Int:=
 (Et c_1.Clauses eG).bind fun r3=>some r3
def sG (gy:Int):Option Bool:=
 (nI gy 0 36524).bind fun r2=>some r2
def kN (aM:(Condition×Int)→Option Int)(c_1:Condition)(cn:Int)(self:(Int×Int)→Option (Int⊕Int))(x5:Int×Int):Option (Int⊕Int):=
 bif (decide (x5.2<(len c_1.Parts))) then ((aK c_1.Parts x5.2).bind fun e6=>(aM (e6,x5.1)).bind fun r7=>bif (decide (r7<0)) then (some (.inl (-1))) else (self (r7,(aj (x5.2+1))))) else (some (.inr x5.1))
def lI (aM:(Condition×Int)→Option Int)(c_1:Condition)(cn:Int): (Int×Int)→Option (Int⊕Int):=aA (kN aM c_1 cn)
theorem Di (aM:(Condition×Int)→Option Int)(c_1:Condition)(cn:Int): ∀a,Fin1 fun f=>kN aM c_1 cn f a:=by
 unfold kN
 repeat first|intro _|exact aO|exact bv|apply bz|apply bd|apply be|apply bm|apply bA
theorem Fx (aM:(Condition×Int)→Option Int)(c_1:Condition)(cn:Int)(x:Int×Int):lI aM c_1 cn x=kN aM c_1 cn (lI aM c_1 cn) x:=bE (Di aM c_1 cn) x
def wC (aM:(Condition×Int)→Option Int)(c_1:Condition)(cn:Int):Option Int:=
 bg (ρ:=Int) (bif (decide ((aj (cn+1))>15)) then (some (.inr true)) else ((nI c_1.Op 1 6).bind fun r20=>ct (ρ:=Int) (bif (!r20) then (some (.inr true)) else ((aK [(-1),0,0,0,1,2,2] c_1.Op).bind fun e22=>some (.inr ((len c_1.Parts) != e22)))) fun u21:Bool=>some (.inr u21))) fun u3:Bool=>bif u3 then (some (-1)) else (bg (ρ:=Int) (bif (!((c_1.Op==2)==(!(c_1.Name==([]:ac))))) then (some (.inr true)) else (ct (ρ:=Int) (bif (c_1.Op==2) then ((vv c_1.Name).bind fun r10=>ct (ρ:=Int) (bif (!r10) then (some (.inr true)) else (ct (ρ:=Int) (bif (c_1.Op != 3) then (ct (ρ:=Int) (bif (c_1.Day != 0) then (some (.inr true)) else ((sG c_1.Day).bind fun r14=>some (.inr (!r14)))) fun u13:Bool=>some (.inr u13)) else ((sG c_1.Day).bind fun r15=>some (.inr (!r15)))) fun u12:Bool=>some (.inr u12))) fun u11:Bool=>some (.inr u11)) else (ct (ρ:=Int) (bif (c_1.Op != 3) then (ct (ρ:=Int) (bif (c_1.Day != 0) then (some (.inr true)) else ((sG c_1.Day).bind fun r18=>some (.inr (!r18)))) fun u17:Bool=>some (.inr u17)) else ((sG c_1.Day).bind fun r19=>some (.inr (!r19)))) fun u16:Bool=>some (.inr u16))) fun u9:Bool=>some (.inr u9))) fun u4:Bool=>bif u4 then (some (-1)) else (bg (ρ:=Int) (lI aM c_1 cn ((aj (cn+1)),0)) fun u8:Int=>some u8))
def lP (aM:(Condition×Int)→Option Int)(x:Condition×Int):Option Int:=wC aM x.1 x.2
def Pq (c_1:Condition)(cn:Int):Option Int:=aA lP (c_1,cn)
theorem T8:∀x,Fin1 fun aM=>lP aM x:=by
 unfold lP wC
 repeat first|intro _|exact aO|exact bv|exact hZ|exact jg|exact gm|exact ie|exact gE|exact gF|apply bz|apply bd|apply be|apply bm|apply bA|apply nm|unfold lI|unfold kN
theorem Wp (c_1:Condition)(cn:Int):Pq c_1 cn=wC (aA lP) c_1 cn:=bE T8 (c_1,cn)
def Ht (c_1:Condition):Option Bool:=
 (Pq c_1 0).bind fun r2=>some (decide (r2>0))
def Iq (c_1:Contract)(i_2:Int):Option Bool:=
 (aK c_1.Clauses i_2).bind fun e3=>(vv e3.Id).bind fun r4=>bg (ρ:=Bool) (bif (!r4) then (some (.inr true)) else ((De c_1 e3.Id).bind fun r23=>ct (ρ:=Bool) (bif (r23 != i_2) then (some (.inr true)) else ((vv e3.Action).bind fun r25=>ct (ρ:=Bool) (bif (!r25) then (some (.inr true)) else ((nI e3.Kind 1 4).bind fun r27=>some (.inr (!r27)))) fun u26:Bool=>some (.inr u26))) fun u24:Bool=>some (.inr u24))) fun u5:Bool=>bif u5 then (some false) else ((nI e3.Party 0 (aj ((len c_1.Parties) - 1))).bind fun r6=>bg (ρ:=Bool) (bif (!r6) then (some (.inr true)) else ((nI e3.Other 0 (aj ((len c_1.Parties) - 1))).bind fun r19=>ct (ρ:=Bool) (bif (!r19) then (some (.inr true)) else (ct (ρ:=Bool) (bif (e3.Party==e3.Other) then (some (.inr true)) else ((Ht e3.When).bind fun r22=>some (.inr (!r22)))) fun u21:Bool=>some (.inr u21))) fun u20:Bool=>some (.inr u20))) fun u7:Bool=>bif u7 then (some false) else ((nI e3.Amount 0 1000000).bind fun r8=>bg (ρ:=Bool) (bif (!r8) then (some (.inr true)) else ((nI e3.Within 0 400).bind fun r15=>di (bif (!r15) then true else (di (bif (e3.Kind != 1) then (di (bif (e3.Amount != 0) then true else (e3.Within != 0)) fun u18:Bool=>u18) else false) fun u17:Bool=>u17)) fun u16:Bool=>some (.inr u16))) fun u9:Bool=>bif u9 then (some false) else (bif (e3.Repair==([]:ac)) then (some true) else ((De c_1 e3.Repair).bind fun r10=>bg (ρ:=Bool) (bif (e3.Kind != 3) then (ct (ρ:=Bool) (bif (decide (r10≥0)) then (ct (ρ:=Bool) (bif (r10 != i_2) then ((aK c_1.Clauses r10).bind fun e14=>some (.inr (e14.Kind==1))) else (some (.inr false))) fun u13:Bool=>some (.inr u13)) else (some (.inr false))) fun u12:Bool=>some (.inr u12)) else (some (.inr false))) fun u11:Bool=>some u11))))
def kM (cm:(Condition×(List ac))→Option (List ac))(c_3:Condition)(bb:List ac)(self:(Int×(List ac))→Option ((List ac)⊕(List ac)))(x4:Int×(List ac)):Option ((List ac)⊕(List ac)):=
 bif (decide (x4.1<(len c_3.Parts))) then ((aK c_3.Parts x4.1).bind fun e5=>(cm (e5,x4.2)).bind fun r6=>self ((aj (x4.1+1)),r6)) else (some (.inr x4.2))
def mV (cm:(Condition×(List ac))→Option (List ac))(c_3:Condition)(bb:List ac): (Int×(List ac))→Option ((List ac)⊕(List ac)):=aA (kM cm c_3 bb)
theorem Da (cm:(Condition×(List ac))→Option (List ac))(c_3:Condition)(bb:List ac): ∀a,Fin1 fun f=>kM cm c_3 bb f a:=by
 unfold kM
 repeat first|intro _|exact aO|exact bv|apply bz|apply bd|apply be|apply bm|apply bA
theorem Ft (cm:(Condition×(List ac))→Option (List ac))(c_3:Condition)(bb:List ac)(x:Int×(List ac)):mV cm c_3 bb x=kM cm c_3 bb (mV cm c_3 bb) x:=bE (Da cm c_3 bb) x
def wA (cm:(Condition×(List ac))→Option (List ac))(c_3:Condition)(bb:List ac):Option (List ac):=
 bg (ρ:=(List ac)) (bif (c_3.Op==2) then ((fy 16 bb [c_3.Name]).bind fun a8=>some (.inr a8)) else (some (.inr bb))) fun u3:(List ac)=>bg (ρ:=(List ac)) (mV cm c_3 bb (0,u3)) fun u7:(List ac)=>some u7
def mU (cm:(Condition×(List ac))→Option (List ac))(x:Condition×(List ac)):Option (List ac):=wA cm x.1 x.2
def Ii (c_3:Condition)(bb:List ac):Option (List ac):=aA mU (c_3,bb)
theorem T0:∀x,Fin1 fun cm=>mU cm x:=by
 unfold mU wA
 repeat first|intro _|exact aO|exact bv|exact hZ|exact jg|exact gm|exact ie|exact gE|exact gF|apply bz|apply bd|apply be|apply bm|apply bA|apply nm|unfold mV|unfold kM
theorem Wo (c_3:Condition)(bb:List ac):Ii c_3 bb=wA (aA mU) c_3 bb:=bE T0 (c_3,bb)
def kx (s_2:List ac)(x2:Int)(self:(Int×Int×(List ac))→Option ((List ac)⊕(Int×(List ac))))(x6:Int×Int×(List ac)):Option ((List ac)⊕(Int×(List ac))):=
 bif (decide (x6.2.1<(((Int.toNat (len s_2) - Int.toNat x2):Nat):Int))) then ((tH x6.2.2 (0+Int.toNat x2) (Int.toNat (len s_2) - Int.toNat x2) x6.2.1).bind fun e7=>(tH x6.2.2 (0+Int.toNat x2) (Int.toNat (len s_2) - Int.toNat x2) (aj (x6.2.1 - 1))).bind fun e8=>ct (ρ:=(List ac)) (bif (!(e7==e8)) then ((tH x6.2.2 (0+Int.toNat x2) (Int.toNat (len s_2) - Int.toNat x2) x6.2.1).bind fun e10=>(aK x6.2.2 x6.1).bind fun e11=>some (.inr ((aj (x6.1+1)),(cT x6.2.2 x6.1 e10)))) else (some (.inr (x6.1,x6.2.2)))) fun u9:Int×(List ac)=>self (u9.1,(aj (x6.2.1+1)),u9.2)) else (some (.inr (x6.1,x6.2.2)))
def jP (s_2:List ac)(x2:Int):(Int×Int×(List ac))→Option ((List ac)⊕(Int×(List ac))):=aA (kx s_2 x2)
theorem xB (s_2:List ac)(x2:Int):∀a,Fin1 fun f=>kx s_2 x2 f a:=by
 unfold kx
 repeat first|intro _|exact aO|exact bv|apply bz|apply bd|apply be|apply bm|apply bA
theorem BF (s_2:List ac)(x2:Int)(x:Int×Int×(List ac)):jP s_2 x2 x=kx s_2 x2 (jP s_2 x2) x:=bE (xB s_2 x2) x
def kw (s_2:List ac)(self:Int→Option ((List ac)⊕(List ac)))(x2:Int):Option ((List ac)⊕(List ac)):=
 bif (decide (x2<(len s_2))) then ((aK s_2 x2).bind fun e3=>(aK s_2 (aj (x2 - 1))).bind fun e4=>bif (e3==e4) then ((gx s_2.length x2 (len s_2)).bind fun s5=>ct (ρ:=(List ac)) (jP s_2 x2 (x2,1,s_2)) fun u15:Int×(List ac)=>(gx u15.2.length u15.1 (len u15.2)).bind fun s16=>(vP u15.2 (0+Int.toNat u15.1) (Int.toNat (len u15.2) - Int.toNat u15.1) []).bind fun k17=>(gx k17.length 0 u15.1).bind fun s18=>(ga k17 (0+Int.toNat (0)) (Int.toNat u15.1 - Int.toNat (0))).bind fun p19=>some (.inl p19)) else (self (aj (x2+1)))) else (some (.inr s_2))
def pM (s_2:List ac): Int→Option ((List ac)⊕(List ac)):=aA (kw s_2)
theorem xA (s_2:List ac): ∀a,Fin1 fun f=>kw s_2 f a:=by
 unfold kw
 repeat first|intro _|exact aO|exact bv|apply bz|apply bd|apply be|apply bm|apply bA
theorem BE (s_2:List ac)(x:Int):pM s_2 x=kw s_2 (pM s_2) x:=bE (xA s_2) x
def zn (s_2:List ac):Option (List ac):=
 bif (decide ((len s_2)<2)) then (some s_2) else (bg (ρ:=(List ac)) (pM s_2 1) fun u20:(List ac)=>some u20)
def Dp (jk:List ac):Option (List ac):=
 (sZ jk).bind fun r2=>bif Nat.beq r2.length jk.length then ((zn r2).bind fun r4=>some r4) else none
def l4 (c_1:Contract)(self:(Int×(List ac))→Option ((List ac)⊕(List ac)))(x2:Int×(List ac)):Option ((List ac)⊕(List ac)):=
 bif (decide (x2.1<(len c_1.Clauses))) then ((aK c_1.Clauses x2.1).bind fun e3=>(fy 16 x2.2 [e3.Action]).bind fun a4=>(Ii e3.When a4).bind fun r5=>self ((aj (x2.1+1)),r5)) else (some (.inr x2.2))
def oQ (c_1:Contract): (Int×(List ac))→Option ((List ac)⊕(List ac)):=aA (l4 c_1)
theorem Dm (c_1:Contract): ∀a,Fin1 fun f=>l4 c_1 f a:=by
 unfold l4
 repeat first|intro _|exact aO|exact bv|apply bz|apply bd|apply be|apply bm|apply bA
theorem Fz (c_1:Contract)(x:Int×(List ac)):oQ c_1 x=l4 c_1 (oQ c_1) x:=bE (Dm c_1) x
def Ip (c_1:Contract):Option (List ac):=
 bg (ρ:=(List ac)) (oQ c_1 (0,[])) fun u6:(List ac)=>(Dp u6).bind fun r7=>some r7
def lX (c_1:Contract)(self:Int→Option (Bool⊕Unit))(x4:Int):Option (Bool⊕Unit):=
 bif (decide (x4<(len c_1.Clauses))) then ((Iq c_1 x4).bind fun r5=>bif (!r5) then (some (.inl false)) else (self (aj (x4+1)))) else (some (.inr ()))
def mQ (c_1:Contract): Int→Option (Bool⊕Unit):=aA (lX c_1)
theorem BA (c_1:Contract): ∀a,Fin1 fun f=>lX c_1 f a:=by
 unfold lX
 repeat first|intro _|exact aO|exact bv|apply bz|apply bd|apply be|apply bm|apply bA
theorem Fm (c_1:Contract)(x:Int):mQ c_1 x=lX c_1 (mQ c_1) x:=bE (BA c_1) x
def HN (c_1:Contract):Option Bool:=
 (Im c_1.Parties).bind fun r2=>bg (ρ:=Bool) (bif (!r2) then (some (.inr true)) else ((nI (len c_1.Clauses) 1 12).bind fun r8=>some (.inr (!r8)))) fun u3:Bool=>bif u3 then (some false) else (bg (ρ:=Bool) (mQ c_1 0) fun u6:Unit=>(Ip c_1).bind fun r7=>some (decide ((len r7)≤16)))
def K7 (i_1:Int)(a_2:Contract)(a_3:Int)(a_4:Clause):Option Bool:=
 (aK a_2.Clauses i_1).bind fun e5=>di (bif (e5.Kind==a_3) then (di (bif (e5.Party==a_4.Party) then (e5.Action==a_4.Action) else false) fun u7:Bool=>u7) else false) fun u6:Bool=>some u6
def l3 (c_1:Contract)(cE:Contract×Int×Clause)(self:(Int×(List Int))→Option ((List Int)⊕(List Int)))(x3:Int×(List Int)):Option ((List Int)⊕(List Int)):=
 bif (decide (x3.1<(len c_1.Clauses))) then ((K7 x3.1 cE.1 cE.2.1 cE.2.2).bind fun r4=>ct (ρ:=(List Int)) (bif r4 then ((fy 8 x3.2 [x3.1]).bind fun a6=>some (.inr a6)) else (some (.inr x3.2))) fun u5:(List Int)=>self ((aj (x3.1+1)),u5)) else (some (.inr x3.2))
def oO (c_1:Contract)(cE:Contract×Int×Clause): (Int×(List Int))→Option ((List Int)⊕(List Int)):=aA (l3 c_1 cE)
theorem Df (c_1:Contract)(cE:Contract×Int×Clause): ∀a,Fin1 fun f=>l3 c_1 cE f a:=by
 unfold l3
 repeat first|intro _|exact aO|exact bv|apply bz|apply bd|apply be|apply bm|apply bA
theorem Fw (c_1:Contract)(cE:Contract×Int×Clause)(x:Int×(List Int)):oO c_1 cE x=l3 c_1 cE (oO c_1 cE) x:=bE (Df c_1 cE) x
def K6 (c_1:Contract)(cE:Contract×Int×Clause):Option (List Int):=
 bg (ρ:=(List Int)) (oO c_1 cE (0,[])) fun u7:(List Int)=>some u7
def Iv (c_1:Contract)(x_2:Clause)(br:Int):Option (List Int):=
 (K6 c_1 (c_1,br,x_2)).bind fun r4=>some r4
def kL (cl:(Condition×(List Int))→Option (List Int))(c_3:Condition)(bb:List Int)(self:(Int×(List Int))→Option ((List Int)⊕(List Int)))(x4:Int×(List Int)):Option ((List Int)⊕(List Int)):=
 bif (decide (x4.1<(len c_3.Parts))) then ((aK c_3.Parts x4.1).bind fun e5=>(cl (e5,x4.2)).bind fun r6=>self ((aj (x4.1+1)),r6)) else (some (.inr x4.2))
def mT (cl:(Condition×(List Int))→Option (List Int))(c_3:Condition)(bb:List Int): (Int×(List Int))→Option ((List Int)⊕(List Int)):=aA (kL cl c_3 bb)
theorem C6 (cl:(Condition×(List Int))→Option (List Int))(c_3:Condition)(bb:List Int): ∀a,Fin1 fun f=>kL cl c_3 bb f a:=by
 unfold kL
 repeat first|intro _|exact aO|exact bv|apply bz|apply bd|apply be|apply bm|apply bA
theorem Fs (cl:(Condition×(List Int))→Option (List Int))(c_3:Condition)(bb:List Int)(x:Int×(List Int)):mT cl c_3 bb x=kL cl c_3 bb (mT cl c_3 bb) x:=bE (C6 cl c_3 bb) x
def wz (cl:(Condition×(List Int))→Option (List Int))(c_3:Condition)(bb:List Int):Option (List Int):=
 bg (ρ:=(List Int)) (bif (c_3.Op==3) then ((fy 8 bb [c_3.Day]).bind fun a8=>some (.inr a8)) else (some (.inr bb))) fun u3:(List Int)=>bg (ρ:=(List Int)) (mT cl c_3 bb (0,u3)) fun u7:(List Int)=>some u7
def mS (cl:(Condition×(List Int))→Option (List Int))(x:Condition×(List Int)):Option (List Int):=wz cl x.1 x.2
def K5 (c_3:Condition)(bb:List Int):Option (List Int):=aA mS (c_3,bb)
theorem TY:∀x,Fin1 fun cl=>mS cl x:=by
 unfold mS wz
 repeat first|intro _|exact aO|exact bv|exact hZ|exact jg|exact gm|exact ie|exact gE|exact gF|apply bz|apply bd|apply be|apply bm|apply bA|apply nm|unfold mT|unfold kL
theorem Wn (c_3:Condition)(bb:List Int):K5 c_3 bb=wz (aA mS) c_3 bb:=bE TY (c_3,bb)
def wD (cN:(Condition×(List ac)×Int)→Option Bool)(c_1:Condition)(bf:List ac)(bT:Int):Option Bool:=
 bif (c_1.Op==2) then ((nS bf c_1.Name).bind fun r4=>some r4) else (bif (c_1.Op==3) then (some (decide (bT≥c_1.Day))) else (bif (c_1.Op==4) then ((aK c_1.Parts 0).bind fun e5=>(cN (e5,bf,bT)).bind fun r6=>some (!r6)) else (bif (c_1.Op==5) then ((aK c_1.Parts 0).bind fun e7=>(cN (e7,bf,bT)).bind fun r8=>bg (ρ:=Bool) (bif r8 then ((aK c_1.Parts 1).bind fun e10=>(cN (e10,bf,bT)).bind fun r11=>some (.inr r11)) else (some (.inr false))) fun u9:Bool=>some u9) else (bif (c_1.Op==6) then ((aK c_1.Parts 0).bind fun e12=>(cN (e12,bf,bT)).bind fun r13=>bg (ρ:=Bool) (bif r13 then (some (.inr true)) else ((aK c_1.Parts 1).bind fun e15=>(cN (e15,bf,bT)).bind fun r16=>some (.inr r16))) fun u14:Bool=>some u14) else (some true)))))
def mX (cN:(Condition×(List ac)×Int)→Option Bool)(x:Condition×(List ac)×Int):Option Bool:=wD cN x.1 x.2.1 x.2.2
def Fy (c_1:Condition)(bf:List ac)(bT:Int):Option Bool:=aA mX (c_1,bf,bT)
theorem Ua:∀x,Fin1 fun cN=>mX cN x:=by
 unfold mX wD
 repeat first|intro _|exact aO|exact bv|apply bz|apply bd|apply be|apply bm|apply bA
theorem Wq (c_1:Condition)(bf:List ac)(bT:Int):Fy c_1 bf bT=wD (aA mX) c_1 bf bT:=bE Ua (c_1,bf,bT)
def l6 (a_1:Condition)(b_2:Condition)(aZ:Bool)(r6:(List ac))(x10:Int)(r8:(List Int))(q9:Int)(self:(Int×(List ac))→Option ((Bool×Bool)⊕(List ac)))(x11:Int×(List ac)):Option ((Bool×Bool)⊕(List ac)):=
 bif (decide (x11.1<(len r6))) then ((aK r6 x11.1).bind fun e12=>(Fc .i64 x10 x11.1).bind fun q13=>ct (ρ:=Bool×Bool) (bif ((II .i64 q13 1)==1) then ((fy 16 x11.2 [e12]).bind fun a15=>some (.inr a15)) else (some (.inr x11.2))) fun u14:(List ac)=>self ((aj (x11.1+1)),u14)) else (some (.inr x11.2))
def qh (a_1:Condition)(b_2:Condition)(aZ:Bool)(r6:(List ac))(x10:Int)(r8:(List Int))(q9:Int):(Int×(List ac))→Option ((Bool×Bool)⊕(List ac)):=aA (l6 a_1 b_2 aZ r6 x10 r8 q9)
theorem Dt (a_1:Condition)(b_2:Condition)(aZ:Bool)(r6:(List ac))(x10:Int)(r8:(List Int))(q9:Int):∀a,Fin1 fun f=>l6 a_1 b_2 aZ r6 x10 r8 q9 f a:=by
 unfold l6
 repeat first|intro _|exact aO|exact bv|apply bz|apply bd|apply be|apply bm|apply bA
theorem FB (a_1:Condition)(b_2:Condition)(aZ:Bool)(r6:(List ac))(x10:Int)(r8:(List Int))(q9:Int)(x:Int×(List ac)):qh a_1 b_2 aZ r6 x10 r8 q9 x=l6 a_1 b_2 aZ r6 x10 r8 q9 (qh a_1 b_2 aZ r6 x10 r8 q9) x:=bE (Dt a_1 b_2 aZ r6 x10 r8 q9) x
def l7 (a_1:Condition)(b_2:Condition)(aZ:Bool)(r8:(List Int))(u16:(List ac))(r6:(List ac))(q9:Int)(x10:Int)(self:Int→Option ((Bool×Bool)⊕Unit))(x17:Int):Option ((Bool×Bool)⊕Unit):=
 bif (decide (x17<(len r8))) then ((aK r8 x17).bind fun e18=>(Fy a_1 u16 e18).bind fun r19=>ct (ρ:=Bool×Bool) (bif r19 then ((Fy b_2 u16 e18).bind fun r21=>some (.inr (r21==aZ))) else (some (.inr false))) fun u20:Bool=>bif u20 then (some (.inl (true,true))) else (self (aj (x17+1)))) else (some (.inr ()))
def oT (a_1:Condition)(b_2:Condition)(aZ:Bool)(r8:(List Int))(u16:(List ac))(r6:(List ac))(q9:Int)(x10:Int):Int→Option ((Bool×Bool)⊕Unit):=aA (l7 a_1 b_2 aZ r8 u16 r6 q9 x10)
theorem Du (a_1:Condition)(b_2:Condition)(aZ:Bool)(r8:(List Int))(u16:(List ac))(r6:(List ac))(q9:Int)(x10:Int):∀a,Fin1 fun f=>l7 a_1 b_2 aZ r8 u16 r6 q9 x10 f a:=by
 unfold l7
 repeat first|intro _|exact aO|exact bv|apply bz|apply bd|apply be|apply bm|apply bA
theorem FC (a_1:Condition)(b_2:Condition)(aZ:Bool)(r8:(List Int))(u16:(List ac))(r6:(List ac))(q9:Int)(x10:Int)(x:Int):oT a_1 b_2 aZ r8 u16 r6 q9 x10 x=l7 a_1 b_2 aZ r8 u16 r6 q9 x10 (oT a_1 b_2 aZ r8 u16 r6 q9 x10) x:=bE (Du a_1 b_2 aZ r8 u16 r6 q9 x10) x
def l5 (a_1:Condition)(b_2:Condition)(aZ:Bool)(q9:Int)(r6:(List ac))(r8:(List Int))(self:Int→Option ((Bool×Bool)⊕Unit))(x10:Int):Option ((Bool×Bool)⊕Unit):=
 bif (decide (x10<q9)) then (ct (ρ:=Bool×Bool) (qh a_1 b_2 aZ r6 x10 r8 q9 (0,[])) fun u16:(List ac)=>ct (ρ:=Bool×Bool) (oT a_1 b_2 aZ r8 u16 r6 q9 x10 0) fun u22:Unit=>self (aj (x10+1))) else (some (.inr ()))
def oS (a_1:Condition)(b_2:Condition)(aZ:Bool)(q9:Int)(r6:(List ac))(r8:(List Int)):Int→Option ((Bool×Bool)⊕Unit):=aA (l5 a_1 b_2 aZ q9 r6 r8)
theorem Ds (a_1:Condition)(b_2:Condition)(aZ:Bool)(q9:Int)(r6:(List ac))(r8:(List Int)):∀a,Fin1 fun f=>l5 a_1 b_2 aZ q9 r6 r8 f a:=by
 unfold l5
 repeat first|intro _|exact aO|exact bv|apply bz|apply bd|apply be|apply bm|apply bA
theorem FA (a_1:Condition)(b_2:Condition)(aZ:Bool)(q9:Int)(r6:(List ac))(r8:(List Int))(x:Int):oS a_1 b_2 aZ q9 r6 r8 x=l5 a_1 b_2 aZ q9 r6 r8 (oS a_1 b_2 aZ q9 r6 r8) x:=bE (Ds a_1 b_2 aZ q9 r6 r8) x
def Dq (a_1:Condition)(b_2:Condition)(aZ:Bool):Option (Bool×Bool):=
 (Ii a_1 []).bind fun r4=>(Ii b_2 r4).bind fun r5=>(Dp r5).bind fun r6=>bif (decide ((len r6)>10)) then (some (false,false)) else ((K5 a_1 [0]).bind fun r7=>(K5 b_2 r7).bind fun r8=>(AE .i64 1 (len r6)).bind fun q9=>bg (ρ:=Bool×Bool) (oS a_1 b_2 aZ q9 r6 r8 0) fun u23:Unit=>some (false,true))
def lY (c_1:Contract)(x_2:Clause)(br:Int)(r4:(List Int))(self:(Bool×Int)→Option ((Bool×Bool)⊕Bool))(x5:Bool×Int):Option ((Bool×Bool)⊕Bool):=
 bif (decide (x5.2<(len r4))) then ((aK r4 x5.2).bind fun e6=>(aK c_1.Clauses e6).bind fun e7=>(Dq x_2.When e7.When true).bind fun r8=>bif (!r8.2) then (some (.inl (false,false))) else (di (bif x5.1 then true else r8.1) fun u9:Bool=>self (u9,(aj (x5.2+1))))) else (some (.inr x5.1))
def mW (c_1:Contract)(x_2:Clause)(br:Int)(r4:(List Int)):(Bool×Int)→Option ((Bool×Bool)⊕Bool):=aA (lY c_1 x_2 br r4)
theorem Db (c_1:Contract)(x_2:Clause)(br:Int)(r4:(List Int)):∀a,Fin1 fun f=>lY c_1 x_2 br r4 f a:=by
 unfold lY
 repeat first|intro _|exact aO|exact bv|apply bz|apply bd|apply be|apply bm|apply bA
theorem Fu (c_1:Contract)(x_2:Clause)(br:Int)(r4:(List Int))(x:Bool×Int):mW c_1 x_2 br r4 x=lY c_1 x_2 br r4 (mW c_1 x_2 br r4) x:=bE (Db c_1 x_2 br r4) x
def Ik (c_1:Contract)(x_2:Clause)(br:Int):Option (Bool×Bool):=
 (Iv c_1 x_2 br).bind fun r4=>bg (ρ:=Bool×Bool) (mW c_1 x_2 br r4 (false,0)) fun u10:Bool=>some (u10,true)
def lW (c_1:Contract)(self:(Int×(List Int))→Option (((List Int)×Bool)⊕(List Int)))(x3:Int×(List Int)):Option (((List Int)×Bool)⊕(List Int)):=
 bif (decide (x3.1<(len c_1.Clauses))) then ((aK c_1.Clauses x3.1).bind fun e4=>bif (e4.Kind != 3) then (self ((aj (x3.1+1)),x3.2)) else ((Ik c_1 e4 2).bind fun r5=>bif (!r5.2) then (some (.inl ([],false))) else (ct (ρ:=(List Int)×Bool) (bif (!r5.1) then ((fy 8 x3.2 [x3.1]).bind fun a7=>some (.inr a7)) else (some (.inr x3.2))) fun u6:(List Int)=>self ((aj (x3.1+1)),u6)))) else (some (.inr x3.2))
def rN (c_1:Contract): (Int×(List Int))→Option (((List Int)×Bool)⊕(List Int)):=aA (lW c_1)
theorem AI (c_1:Contract): ∀a,Fin1 fun f=>lW c_1 f a:=by
 unfold lW
 repeat first|intro _|exact aO|exact bv|apply bz|apply bd|apply be|apply bm|apply bA
theorem Fl (c_1:Contract)(x:Int×(List Int)):rN c_1 x=lW c_1 (rN c_1) x:=bE (AI c_1) x
def Fk (c_1:Contract):Option ((List Int)×Bool):=
 (HN c_1).bind fun r2=>bif (!r2) then (some ([],false)) else (bg (ρ:=(List Int)×Bool) (rN c_1 (0,[])) fun u8:(List Int)=>some (u8,true))
def mh (a_1:List Int)(b_2:List Int)(self:Int→Option (Bool⊕Unit))(x3:Int):Option (Bool⊕Unit):=
 bif (decide (x3<(len a_1))) then ((aK a_1 x3).bind fun e4=>(aK b_2 x3).bind fun e5=>bif (e4 != e5) then (some (.inl false)) else (self (aj (x3+1)))) else (some (.inr ()))
def rO (a_1:List Int)(b_2:List Int): Int→Option (Bool⊕Unit):=aA (mh a_1 b_2)
theorem xj (a_1:List Int)(b_2:List Int): ∀a,Fin1 fun f=>mh a_1 b_2 f a:=by
 unfold mh
 repeat first|intro _|exact aO|exact bv|apply bz|apply bd|apply be|apply bm|apply bA
theorem LI (a_1:List Int)(b_2:List Int)(x:Int):rO a_1 b_2 x=mh a_1 b_2 (rO a_1 b_2) x:=bE (xj a_1 b_2) x
def ta (a_1:List Int)(b_2:List Int):Option Bool:=
 bif ((len a_1) != (len b_2)) then (some false) else (bg (ρ:=Bool) (rO a_1 b_2 0) fun u6:Unit=>some true)
def mi (a_1:List ac)(b_2:List ac)(self:Int→Option (Bool⊕Unit))(x3:Int):Option (Bool⊕Unit):=
 bif (decide (x3<(len a_1))) then ((aK a_1 x3).bind fun e4=>(aK b_2 x3).bind fun e5=>bif (!(e4==e5)) then (some (.inl false)) else (self (aj (x3+1)))) else (some (.inr ()))
def rQ (a_1:List ac)(b_2:List ac): Int→Option (Bool⊕Unit):=aA (mi a_1 b_2)
theorem xk (a_1:List ac)(b_2:List ac): ∀a,Fin1 fun f=>mi a_1 b_2 f a:=by
 unfold mi
 repeat first|intro _|exact aO|exact bv|apply bz|apply bd|apply be|apply bm|apply bA
theorem LJ (a_1:List ac)(b_2:List ac)(x:Int):rQ a_1 b_2 x=mi a_1 b_2 (rQ a_1 b_2) x:=bE (xk a_1 b_2) x
def yJ (a_1:List ac)(b_2:List ac):Option Bool:=
 bif ((len a_1) != (len b_2)) then (some false) else (bg (ρ:=Bool) (rQ a_1 b_2 0) fun u6:Unit=>some true)
def kj (bo:(Condition×Condition)→Option Bool)(a_1:List Condition)(b_2:List Condition)(self:Int→Option (Bool⊕Unit))(x3:Int):Option (Bool⊕Unit):=
 bif (decide (x3<(len a_1))) then ((aK a_1 x3).bind fun e4=>(aK b_2 x3).bind fun e5=>(bo (e4,e5)).bind fun r6=>bif (!r6) then (some (.inl false)) else (self (aj (x3+1)))) else (some (.inr ()))
def pJ (bo:(Condition×Condition)→Option Bool)(a_1:List Condition)(b_2:List Condition): Int→Option (Bool⊕Unit):=aA (kj bo a_1 b_2)
theorem xi (bo:(Condition×Condition)→Option Bool)(a_1:List Condition)(b_2:List Condition): ∀a,Fin1 fun f=>kj bo a_1 b_2 f a:=by
 unfold kj
 repeat first|intro _|exact aO|exact bv|apply bz|apply bd|apply be|apply bm|apply bA
theorem LH (bo:(Condition×Condition)→Option Bool)(a_1:List Condition)(b_2:List Condition)(x:Int):pJ bo a_1 b_2 x=kj bo a_1 b_2 (pJ bo a_1 b_2) x:=bE (xi bo a_1 b_2) x
def uz (bo:(Condition×Condition)→Option Bool)(a_1:List Condition)(b_2:List Condition):Option Bool:=
 bif ((len a_1) != (len b_2)) then (some false) else (bg (ρ:=Bool) (pJ bo a_1 b_2 0) fun u7:Unit=>some true)
def wG (bo:(Condition×Condition)→Option Bool)(a_1:Condition)(b_2:Condition):Option Bool:=
 bif (a_1.Op != b_2.Op) then (some false) else (bif (!(a_1.Name==b_2.Name)) then (some false) else (bif (a_1.Day != b_2.Day) then (some false) else ((uz bo a_1.Parts b_2.Parts).bind fun r3=>bif (!r3) then (some false) else (some true))))
def qK (bo:(Condition×Condition)→Option Bool)(x:Condition×Condition):Option Bool:=wG bo x.1 x.2
def Iz (a_1:Condition)(b_2:Condition):Option Bool:=aA qK (a_1,b_2)
theorem Uq:∀x,Fin1 fun bo=>qK bo x:=by
 unfold qK wG
 repeat first|intro _|exact aO|exact bv|exact hZ|exact jg|exact gm|exact ie|exact gE|exact gF|apply bz|apply bd|apply be|apply bm|apply bA|apply nm|unfold uz|unfold pJ|unfold kj
theorem Wr (a_1:Condition)(b_2:Condition):Iz a_1 b_2=wG (aA qK) a_1 b_2:=bE Uq (a_1,b_2)
def FD (a_1:Clause)(b_2:Clause):Option Bool:=
 bif (!(a_1.Id==b_2.Id)) then (some false) else (bif (a_1.Kind != b_2.Kind) then (some false) else (bif (a_1.Party != b_2.Party) then (some false) else (bif (!(a_1.Action==b_2.Action)) then (some false) else (bif (a_1.Other != b_2.Other) then (some false) else (bif (a_1.Amount != b_2.Amount) then (some false) else ((Iz a_1.When b_2.When).bind fun r3=>bif (!r3) then (some false) else (bif (a_1.Within != b_2.Within) then (some false) else (bif (!(a_1.Repair==b_2.Repair)) then (some false) else (some true)))))))))
def nX (a_1:List Clause)(b_2:List Clause)(self:Int→Option (Bool⊕Unit))(x3:Int):Option (Bool⊕Unit):=
 bif (decide (x3<(len a_1))) then ((aK a_1 x3).bind fun e4=>(aK b_2 x3).bind fun e5=>(FD e4 e5).bind fun r6=>bif (!r6) then (some (.inl false)) else (self (aj (x3+1)))) else (some (.inr ()))
def vD (a_1:List Clause)(b_2:List Clause): Int→Option (Bool⊕Unit):=aA (nX a_1 b_2)
theorem Dv (a_1:List Clause)(b_2:List Clause): ∀a,Fin1 fun f=>nX a_1 b_2 f a:=by
 unfold nX
 repeat first|intro _|exact aO|exact bv|apply bz|apply bd|apply be|apply bm|apply bA
theorem Pu (a_1:List Clause)(b_2:List Clause)(x:Int):vD a_1 b_2 x=nX a_1 b_2 (vD a_1 b_2) x:=bE (Dv a_1 b_2) x
def Iy (a_1:List Clause)(b_2:List Clause):Option Bool:=
 bif ((len a_1) != (len b_2)) then (some false) else (bg (ρ:=Bool) (vD a_1 b_2 0) fun u7:Unit=>some true)
def yG (a_1:Contract)(b_2:Contract):Option Bool:=
 (yJ a_1.Parties b_2.Parties).bind fun r3=>bif (!r3) then (some false) else ((Iy a_1.Clauses b_2.Clauses).bind fun r4=>bif (!r4) then (some false) else (some true))
def kt (k_1:Int)(self:(Int×ac)→Option (ac⊕ac))(x2:Int×ac):Option (ac⊕ac):=
 bif (decide (x2.1>0)) then ((Ae ([(IntKind.u8.wrap (aj (48+(x2.1.tmod 10))))].map fun n=>UInt8.ofNat n.toNat) x2.2).bind fun s3=>self ((aj (x2.1.tdiv 10)),s3)) else (some (.inr x2.2))
def rX (k_1:Int): (Int×ac)→Option (ac⊕ac):=aA (kt k_1)
theorem xq (k_1:Int): ∀a,Fin1 fun f=>kt k_1 f a:=by
 unfold kt
 repeat first|intro _|exact aO|exact bv|apply bz|apply bd|apply be|apply bm|apply bA
theorem Bd (k_1:Int)(x:Int×ac):rX k_1 x=kt k_1 (rX k_1) x:=bE (xq k_1) x
def mP (k_1:Int):Option ac:=
 bif (decide (k_1≤0)) then (some ([109,48]:ac)) else (bg (ρ:=ac) (rX k_1 (k_1,([]:ac))) fun u4:ac=>(Ae ([109]:ac) u4).bind fun s5=>some s5)
def ks (a_7:List ac)(k_8:Int)(self:(Int×Int×(List ac))→Option ((Int×(List ac))⊕(Int×(List ac))))(x3:Int×Int×(List ac)):Option ((Int×(List ac))⊕(Int×(List ac))):=
 bif (decide (x3.2.1<(len x3.2.2))) then ((mP x3.1).bind fun r4=>(aK x3.2.2 x3.2.1).bind fun e5=>self ((aj (x3.1+1)),(aj (x3.2.1+1)),(cT x3.2.2 x3.2.1 r4))) else (some (.inr (x3.1,x3.2.2)))
def rU (a_7:List ac)(k_8:Int): (Int×Int×(List ac))→Option ((Int×(List ac))⊕(Int×(List ac))):=aA (ks a_7 k_8)
theorem xp (a_7:List ac)(k_8:Int): ∀a,Fin1 fun f=>ks a_7 k_8 f a:=by
 unfold ks
 repeat first|intro _|exact aO|exact bv|apply bz|apply bd|apply be|apply bm|apply bA
theorem Ba (a_7:List ac)(k_8:Int)(x:Int×Int×(List ac)):rU a_7 k_8 x=ks a_7 k_8 (rU a_7 k_8) x:=bE (xp a_7 k_8) x
def yT (a_7:List ac)(k_8:Int):Option (Int×(List ac)):=
 bg (ρ:=Int×(List ac)) (rU a_7 k_8 (k_8,0,a_7)) fun u6:Int×(List ac)=>bif Nat.beq u6.2.length a_7.length then (some (u6.1,u6.2)) else none
def jr (b8:((List Condition)×Int)→Option (Int×(List Condition)))(a_6:List Condition)(k_7:Int)(self:(Int×Int×(List Condition))→Option ((Int×(List Condition))⊕(Int×(List Condition))))(x3:Int×Int×(List Condition)):Option ((Int×(List Condition))⊕(Int×(List Condition))):=
 bif (decide (x3.2.1<(len x3.2.2))) then ((aK x3.2.2 x3.2.1).bind fun e4=>(mP (aj (x3.1+1))).bind fun r5=>(aK (cT x3.2.2 x3.2.1 (Condition.mk x3.1 e4.Name e4.Day e4.Parts)) x3.2.1).bind fun e6=>di (cT (cT x3.2.2 x3.2.1 (Condition.mk x3.1 e4.Name e4.Day e4.Parts)) x3.2.1 (Condition.mk e6.Op r5 e6.Day e6.Parts)) fun rw7:List Condition=>(aK rw7 x3.2.1).bind fun e9=>di (cT rw7 x3.2.1 (Condition.mk e9.Op e9.Name (aj ((aj (x3.1+1))+1)) e9.Parts)) fun rw10:List Condition=>(aK rw10 x3.2.1).bind fun e13=>(b8 (e13.Parts,(aj ((aj ((aj (x3.1+1))+1))+1)))).bind fun r14=>bif Nat.beq r14.2.length e13.Parts.length then (di (cT rw10 x3.2.1 (Condition.mk e13.Op e13.Name e13.Day r14.2)) fun rw16:List Condition=>self (r14.1,(aj (x3.2.1+1)),rw16)) else none) else (some (.inr (x3.1,x3.2.2)))
def lg (b8:((List Condition)×Int)→Option (Int×(List Condition)))(a_6:List Condition)(k_7:Int): (Int×Int×(List Condition))→Option ((Int×(List Condition))⊕(Int×(List Condition))):=aA (jr b8 a_6 k_7)
theorem xn (b8:((List Condition)×Int)→Option (Int×(List Condition)))(a_6:List Condition)(k_7:Int): ∀a,Fin1 fun f=>jr b8 a_6 k_7 f a:=by
 unfold jr
 repeat first|intro _|exact aO|exact bv|apply bz|apply bd|apply be|apply bm|apply bA
theorem AZ (b8:((List Condition)×Int)→Option (Int×(List Condition)))(a_6:List Condition)(k_7:Int)(x:Int×Int×(List Condition)):lg b8 a_6 k_7 x=jr b8 a_6 k_7 (lg b8 a_6 k_7) x:=bE (xn b8 a_6 k_7) x
def rS (b8:((List Condition)×Int)→Option (Int×(List Condition)))(a_6:List Condition)(k_7:Int):Option (Int×(List Condition)):=
 bg (ρ:=Int×(List Condition)) (lg b8 a_6 k_7 (k_7,0,a_6)) fun u20:Int×(List Condition)=>bif Nat.beq u20.2.length a_6.length then (some (u20.1,u20.2)) else none
def kq (b8:((List Condition)×Int)→Option (Int×(List Condition)))(x:(List Condition)×Int):Option (Int×(List Condition)):=rS b8 x.1 x.2
def LK (a_6:List Condition)(k_7:Int):Option (Int×(List Condition)):=aA kq (a_6,k_7)
theorem QP:∀x,Fin1 fun b8=>kq b8 x:=by
 unfold kq rS
 repeat first|intro _|exact aO|exact bv|exact hZ|exact jg|exact gm|exact ie|exact gE|exact gF|apply bz|apply bd|apply be|apply bm|apply bA|apply nm|unfold lg|unfold jr
theorem TP (a_6:List Condition)(k_7:Int):LK a_6 k_7=rS (aA kq) a_6 k_7:=bE QP (a_6,k_7)
def ko (a_7:List Clause)(k_8:Int)(self:(Int×Int×(List Clause))→Option ((Int×(List Clause))⊕(Int×(List Clause))))(x3:Int×Int×(List Clause)):Option ((Int×(List Clause))⊕(Int×(List Clause))):=
 bif (decide (x3.2.1<(len x3.2.2))) then ((mP x3.1).bind fun r4=>(aK x3.2.2 x3.2.1).bind fun e5=>(aK (cT x3.2.2 x3.2.1 (Clause.mk r4 e5.Kind e5.Party e5.Action e5.Other e5.Amount e5.When e5.Within e5.Repair)) x3.2.1).bind fun e6=>di (cT (cT x3.2.2 x3.2.1 (Clause.mk r4 e5.Kind e5.Party e5.Action e5.Other e5.Amount e5.When e5.Within e5.Repair)) x3.2.1 (Clause.mk e6.Id (aj (x3.1+1)) e6.Party e6.Action e6.Other e6.Amount e6.When e6.Within e6.Repair)) fun rw7:List Clause=>(aK rw7 x3.2.1).bind fun e9=>di (cT rw7 x3.2.1 (Clause.mk e9.Id e9.Kind (aj ((aj (x3.1+1))+1)) e9.Action e9.Other e9.Amount e9.When e9.Within e9.Repair)) fun rw10:List Clause=>(mP (aj ((aj ((aj (x3.1+1))+1))+1))).bind fun r13=>(aK rw10 x3.2.1).bind fun e14=>di (cT rw10 x3.2.1 (Clause.mk e14.Id e14.Kind e14.Party r13 e14.Other e14.Amount e14.When e14.Within e14.Repair)) fun rw15:List Clause=>(aK rw15 x3.2.1).bind fun e19=>di (cT rw15 x3.2.1 (Clause.mk e19.Id e19.Kind e19.Party e19.Action (aj ((aj ((aj ((aj (x3.1+1))+1))+1))+1)) e19.Amount e19.When e19.Within e19.Repair)) fun rw20:List Clause=>(aK rw20 x3.2.1).bind fun e25=>di (cT rw20 x3.2.1 (Clause.mk e25.Id e25.Kind e25.Party e25.Action e25.Other (aj ((aj ((aj ((aj ((aj (x3.1+1))+1))+1))+1))+1)) e25.When e25.Within e25.Repair)) fun rw26:List Clause=>(aK rw26 x3.2.1).bind fun e32=>di (cT rw26 x3.2.1 (Clause.mk e32.Id e32.Kind e32.Party e32.Action e32.Other e32.Amount (Condition.mk (aj ((aj ((aj ((aj ((aj ((aj (x3.1+1))+1))+1))+1))+1))+1)) e32.When.Name e32.When.Day e32.When.Parts) e32.Within e32.Repair)) fun rw33:List Clause=>(mP (aj ((aj ((aj ((aj ((aj ((aj ((aj (x3.1+1))+1))+1))+1))+1))+1))+1))).bind fun r40=>(aK rw33 x3.2.1).bind fun e41=>di (cT rw33 x3.2.1 (Clause.mk e41.Id e41.Kind e41.Party e41.Action e41.Other e41.Amount (Condition.mk e41.When.Op r40 e41.When.Day e41.When.Parts) e41.Within e41.Repair)) fun rw42:List Clause=>(aK rw42 x3.2.1).bind fun e50=>di (cT rw42 x3.2.1 (Clause.mk e50.Id e50.Kind e50.Party e50.Action e50.Other e50.Amount (Condition.mk e50.When.Op e50.When.Name (aj ((aj ((aj ((aj ((aj ((aj ((aj ((aj (x3.1+1))+1))+1))+1))+1))+1))+1))+1)) e50.When.Parts) e50.Within e50.Repair)) fun rw51:List Clause=>(aK rw51 x3.2.1).bind fun e60=>(LK e60.When.Parts (aj ((aj ((aj ((aj ((aj ((aj ((aj ((aj ((aj (x3.1+1))+1))+1))+1))+1))+1))+1))+1))+1))).bind fun r61=>bif Nat.beq r61.2.length e60.When.Parts.length then (di (cT rw51 x3.2.1 (Clause.mk e60.Id e60.Kind e60.Party e60.Action e60.Other e60.Amount (Condition.mk e60.When.Op e60.When.Name e60.When.Day r61.2) e60.Within e60.Repair)) fun rw63:List Clause=>(aK rw63 x3.2.1).bind fun e73=>di (cT rw63 x3.2.1 (Clause.mk e73.Id e73.Kind e73.Party e73.Action e73.Other e73.Amount e73.When r61.1 e73.Repair)) fun rw74:List Clause=>(mP (aj (r61.1+1))).bind fun r85=>(aK rw74 x3.2.1).bind fun e86=>di (cT rw74 x3.2.1 (Clause.mk e86.Id e86.Kind e86.Party e86.Action e86.Other e86.Amount e86.When e86.Within r85)) fun rw87:List Clause=>self ((aj ((aj (r61.1+1))+1)),(aj (x3.2.1+1)),rw87)) else none) else (some (.inr (x3.1,x3.2.2)))
def mj (a_7:List Clause)(k_8:Int): (Int×Int×(List Clause))→Option ((Int×(List Clause))⊕(Int×(List Clause))):=aA (ko a_7 k_8)
theorem xm (a_7:List Clause)(k_8:Int): ∀a,Fin1 fun f=>ko a_7 k_8 f a:=by
 unfold ko
 repeat first|intro _|exact aO|exact bv|apply bz|apply bd|apply be|apply bm|apply bA
theorem AY (a_7:List Clause)(k_8:Int)(x:Int×Int×(List Clause)):mj a_7 k_8 x=ko a_7 k_8 (mj a_7 k_8) x:=bE (xm a_7 k_8) x
def yM (a_7:List Clause)(k_8:Int):Option (Int×(List Clause)):=
 bg (ρ:=Int×(List Clause)) (mj a_7 k_8 (k_8,0,a_7)) fun u99:Int×(List Clause)=>bif Nat.beq u99.2.length a_7.length then (some (u99.1,u99.2)) else none
def yP (a_7:Contract)(k_8:Int):Option Int:=
 (yT a_7.Parties k_8).bind fun r3=>bif Nat.beq r3.2.length a_7.Parties.length then ((yM a_7.Clauses r3.1).bind fun r5=>bif Nat.beq r5.2.length a_7.Clauses.length then (some r5.1) else none) else none
def kr (a_6:List Int)(k_7:Int)(self:(Int×Int×(List Int))→Option ((Int×(List Int))⊕(Int×(List Int))))(x3:Int×Int×(List Int)):Option ((Int×(List Int))⊕(Int×(List Int))):=
 bif (decide (x3.2.1<(len x3.2.2))) then ((aK x3.2.2 x3.2.1).bind fun e4=>self ((aj (x3.1+1)),(aj (x3.2.1+1)),(cT x3.2.2 x3.2.1 x3.1))) else (some (.inr (x3.1,x3.2.2)))
def rT (a_6:List Int)(k_7:Int): (Int×Int×(List Int))→Option ((Int×(List Int))⊕(Int×(List Int))):=aA (kr a_6 k_7)
theorem xo (a_6:List Int)(k_7:Int): ∀a,Fin1 fun f=>kr a_6 k_7 f a:=by
 unfold kr
 repeat first|intro _|exact aO|exact bv|apply bz|apply bd|apply be|apply bm|apply bA
theorem A7 (a_6:List Int)(k_7:Int)(x:Int×Int×(List Int)):rT a_6 k_7 x=kr a_6 k_7 (rT a_6 k_7) x:=bE (xo a_6 k_7) x
def yR (a_6:List Int)(k_7:Int):Option (Int×(List Int)):=
 bg (ρ:=Int×(List Int)) (rT a_6 k_7 (k_7,0,a_6)) fun u5:Int×(List Int)=>bif Nat.beq u5.2.length a_6.length then (some (u5.1,u5.2)) else none
def kn (a_1:List Int)(k_2:Int)(self:(Int×Int)→Option (Int⊕Int))(x3:Int×Int):Option (Int⊕Int):=
 bif (decide (x3.2<(len a_1))) then ((aK a_1 x3.2).bind fun e4=>bif (e4 != x3.1) then (some (.inl (-1))) else (self ((aj (x3.1+1)),(aj (x3.2+1))))) else (some (.inr x3.1))
def rR (a_1:List Int)(k_2:Int): (Int×Int)→Option (Int⊕Int):=aA (kn a_1 k_2)
theorem xl (a_1:List Int)(k_2:Int): ∀a,Fin1 fun f=>kn a_1 k_2 f a:=by
 unfold kn
 repeat first|intro _|exact aO|exact bv|apply bz|apply bd|apply be|apply bm|apply bA
theorem AV (a_1:List Int)(k_2:Int)(x:Int×Int):rR a_1 k_2 x=kn a_1 k_2 (rR a_1 k_2) x:=bE (xl a_1 k_2) x
def uA (a_1:List Int)(k_2:Int):Option Int:=
 bg (ρ:=Int) (rR a_1 k_2 (k_2,0)) fun u5:Int=>some u5
def d7 (f6:Contract):Option Bool:=
 (za f6 1048576).bind fun r2=>bif (decide (r2<0)) then (some true) else ((rh f6).bind fun r3=>(zr r3).bind fun r4=>(rh f6).bind fun r5=>(Fk r5).bind fun r6=>(ta r6.1 r4.1).bind fun r7=>di (bif (!r7) then true else (!(r6.2==r4.2))) fun u8:Bool=>bif u8 then (some false) else ((rh f6).bind fun r9=>(yG r5 r9).bind fun r10=>bif (!r10) then (some false) else ((yP r5 1).bind fun r11=>bg (ρ:=Bool) (bif (decide (r11<0)) then (some (.inr true)) else ((ta r6.1 r4.1).bind fun r21=>di (bif (!r21) then true else (!(r6.2==r4.2))) fun u22:Bool=>some (.inr u22))) fun u12:Bool=>bif u12 then (some false) else ((yR r6.1 1).bind fun r13=>bif Nat.beq r13.2.length r6.1.length then ((uA r13.2 1).bind fun r15=>bif (decide (r15<0)) then (some false) else (bif (r15 != r13.1) then (some false) else ((rh f6).bind fun r16=>(Fk r16).bind fun r17=>(ta r17.1 r4.1).bind fun r18=>di (bif (!r18) then true else (!(r17.2==r4.2))) fun u19:Bool=>bif u19 then (some false) else ((uA r13.2 1).bind fun r20=>bif (decide (r20<0)) then (some false) else (bif (r20 != r13.1) then (some false) else (some true)))))) else none))))
end
end Go.Ln
