/-
  What each function computes.
-/
import Derived.Test.YtcfddlacocdpoaaGreatDoorFnExactIsForbiddenLnC
set_option maxHeartbeats 4000000
set_option linter.unusedVariables false
set_option linter.unusedSimpArgs false
set_option maxRecDepth 100000
namespace Go.Ln
open Go
noncomputable section
structure Condition where
 Op:Int
 Name:aa
 Day:Int
 Parts:List Condition
mutual
def ay:Condition→V
 | ⟨a0,a1,a2,a3⟩=>.agg [I a0,str a1,I a2,.isl false (dm a3)]
def dm:List Condition→List V
 | []=>[]
 | x::xs=>ay x::dm xs
end
theorem nI:∀xs,dm xs=xs.map ay
 | []=>by simp[dm]
 | x::xs=>by simp[dm,nI xs]
def bg (x:Condition):V:=.agg [I x.Op,str x.Name,I x.Day,.isl false (x.Parts.map ay)]
abbrev ah (x:Condition):V:=.agg [I x.Op,str x.Name,I x.Day,.isl false (x.Parts.map ay)]
theorem bB (x:Condition):ay x=bg x:=by cases x;simp only[ay,bg,nI]
mutual
theorem eV:∀(a b:Condition),ay a=ay b→a=b
 | ⟨a0,a1,a2,a3⟩,⟨b0,b1,b2,b3⟩,h=>by
  simp only[ay] at h
  have k0:=V.agg.inj h
  obtain⟨h0,k1⟩:=List.cons.inj k0
  obtain rfl:=bz a0 b0 h0
  obtain⟨h1,k2⟩:=List.cons.inj k1
  obtain rfl:=ba a1 b1 h1
  obtain⟨h2,k3⟩:=List.cons.inj k2
  obtain rfl:=bz a2 b2 h2
  obtain⟨h3,k4⟩:=List.cons.inj k3
  have e3:dm a3=dm b3:=by simpa using h3
  obtain rfl:=nH a3 b3 e3
  rfl
theorem nH:∀(a b:List Condition),dm a=dm b→a=b
 | [],[],_=>rfl
 | [],_::_,h=>by simp[dm] at h
 | _::_,[],h=>by simp[dm] at h
 | x::xs,y::ys,h=>by
  simp only[dm,List.cons.injEq] at h
  rw[eV x y h.1,nH xs ys h.2]
end
theorem cH (a b:Condition)(h:bg a=bg b):a=b:=eV a b (by rw[bB,bB,h])
mutual
def aC:Condition→V
 | ⟨a0,a1,a2,a3⟩=>.agg [I a0,str a1,I a2,.usl 4 (cI a3)]
def cI:List Condition→List V
 | []=>[]
 | x::xs=>aC x::cI xs
end
theorem nL:∀xs,cI xs=xs.map aC
 | []=>by simp[cI]
 | x::xs=>by simp[cI,nL xs]
def qR (x:Condition):V:=.agg [I x.Op,str x.Name,I x.Day,.usl 4 (x.Parts.map aC)]
abbrev pe (x:Condition):V:=.agg [I x.Op,str x.Name,I x.Day,.usl 4 (x.Parts.map aC)]
theorem lz (x:Condition):aC x=qR x:=by cases x;simp only[aC,qR,nL]
mutual
theorem wi:∀(a b:Condition),aC a=aC b→a=b
 | ⟨a0,a1,a2,a3⟩,⟨b0,b1,b2,b3⟩,h=>by
  simp only[aC] at h
  have k0:=V.agg.inj h
  obtain⟨h0,k1⟩:=List.cons.inj k0
  obtain rfl:=bz a0 b0 h0
  obtain⟨h1,k2⟩:=List.cons.inj k1
  obtain rfl:=ba a1 b1 h1
  obtain⟨h2,k3⟩:=List.cons.inj k2
  obtain rfl:=bz a2 b2 h2
  obtain⟨h3,k4⟩:=List.cons.inj k3
  have e3:cI a3=cI b3:=by simpa using h3
  obtain rfl:=nK a3 b3 e3
  rfl
theorem nK:∀(a b:List Condition),cI a=cI b→a=b
 | [],[],_=>rfl
 | [],_::_,h=>by simp[cI] at h
 | _::_,[],h=>by simp[cI] at h
 | x::xs,y::ys,h=>by
  simp only[cI,List.cons.injEq] at h
  rw[wi x y h.1,nK xs ys h.2]
end
mutual
theorem oV:∀x:Condition,d6 (aC x)=ay x
 | ⟨a0,a1,a2,a3⟩=>by simp[aC,ay,d6,fh,str,nJ]
theorem nJ:∀xs:List Condition,fh (cI xs)=dm xs
 | []=>by simp[cI,dm,fh]
 | x::xs=>by simp[cI,dm,fh,oV x,nJ xs]
end
mutual
theorem uV:∀x:Condition,dt (aC x)=false
 | ⟨a0,a1,a2,a3⟩=>by simp[aC,dt,d4,str,ng]
theorem ng:∀xs:List Condition,d4 (cI xs)=false
 | []=>by simp[cI,d4]
 | x::xs=>by simp[cI,d4,uV x,ng xs]
end
structure Clause where
 Id:aa
 Kind:Int
 Party:Int
 Action:aa
 Other:Int
 Amount:Int
 When:Condition
 Within:Int
 Repair:aa
def aj (x:Clause):V:=.agg [str x.Id,I x.Kind,I x.Party,str x.Action,I x.Other,I x.Amount,I x.When.Op,str x.When.Name,I x.When.Day,.isl false (x.When.Parts.map ay),I x.Within,str x.Repair]
abbrev ao (x:Clause):V:=.agg [str x.Id,I x.Kind,I x.Party,str x.Action,I x.Other,I x.Amount,I x.When.Op,str x.When.Name,I x.When.Day,.isl false (x.When.Parts.map ay),I x.Within,str x.Repair]
theorem cC (a b:Clause)(h:aj a=aj b):a=b:=by
 obtain⟨p0,p1,p2,p3,p4,p5,⟨p6,p7,p8,p9⟩,p10,p11⟩:=a
 obtain⟨q0,q1,q2,q3,q4,q5,⟨q6,q7,q8,q9⟩,q10,q11⟩:=b
 replace h:=V.agg.inj h
 obtain⟨h0,h⟩:=List.cons.inj h
 obtain rfl:=ba p0 q0 h0
 obtain⟨h1,h⟩:=List.cons.inj h
 obtain rfl:=bz p1 q1 h1
 obtain⟨h2,h⟩:=List.cons.inj h
 obtain rfl:=bz p2 q2 h2
 obtain⟨h3,h⟩:=List.cons.inj h
 obtain rfl:=ba p3 q3 h3
 obtain⟨h4,h⟩:=List.cons.inj h
 obtain rfl:=bz p4 q4 h4
 obtain⟨h5,h⟩:=List.cons.inj h
 obtain rfl:=bz p5 q5 h5
 obtain⟨h6,h⟩:=List.cons.inj h
 obtain rfl:=bz p6 q6 h6
 obtain⟨h7,h⟩:=List.cons.inj h
 obtain rfl:=ba p7 q7 h7
 obtain⟨h8,h⟩:=List.cons.inj h
 obtain rfl:=bz p8 q8 h8
 obtain⟨h9,h⟩:=List.cons.inj h
 obtain rfl:=(bv eV) p9 q9 h9
 obtain⟨h10,h⟩:=List.cons.inj h
 obtain rfl:=bz p10 q10 h10
 obtain⟨h11,h⟩:=List.cons.inj h
 obtain rfl:=ba p11 q11 h11
 rfl
def aQ (x:Clause):V:=.agg [str x.Id,I x.Kind,I x.Party,str x.Action,I x.Other,I x.Amount,I x.When.Op,str x.When.Name,I x.When.Day,.usl 4 (x.When.Parts.map aC),I x.Within,str x.Repair]
abbrev tu (x:Clause):V:=.agg [str x.Id,I x.Kind,I x.Party,str x.Action,I x.Other,I x.Amount,I x.When.Op,str x.When.Name,I x.When.Day,.usl 4 (x.When.Parts.map aC),I x.Within,str x.Repair]
theorem fW (x:Clause):d6 (aQ x)=aj x:=W1 (fm rfl (fm rfl (fm rfl (fm rfl (fm rfl (fm rfl (fm rfl (fm rfl (fm rfl (fm (uj (cf oV)) (fm rfl (fm rfl rfl))))))))))))
structure Contract where
 Parties:List aa
 Clauses:List Clause
def aO (x:Contract):V:=.agg [.isl false (x.Parties.map str),.isl false (x.Clauses.map aj)]
abbrev ac (x:Contract):V:=.agg [.isl false (x.Parties.map str),.isl false (x.Clauses.map aj)]
theorem bb (a b:Contract)(h:aO a=aO b):a=b:=by
 obtain⟨p0,p1⟩:=a
 obtain⟨q0,q1⟩:=b
 replace h:=V.agg.inj h
 obtain⟨h0,h⟩:=List.cons.inj h
 obtain rfl:=(bv ba) p0 q0 h0
 obtain⟨h1,h⟩:=List.cons.inj h
 obtain rfl:=(bv cC) p1 q1 h1
 rfl
structure Duty where
 Clause:Int
 Since:Int
 Due:Int
 Status:Int
def ae (x:Duty):V:=.agg [I x.Clause,I x.Since,I x.Due,I x.Status]
abbrev abi (x:Duty):V:=.agg [I x.Clause,I x.Since,I x.Due,I x.Status]
theorem sX (x:Duty):(cells (ae x)).length=4∧(cells (ae x)).all eK=true:=⟨rfl,rfl⟩
theorem gA (x:Duty):d6 (ae x)=ae x:=rfl
theorem dH (a b:Duty)(h:ae a=ae b):a=b:=by
 obtain⟨p0,p1,p2,p3⟩:=a
 obtain⟨q0,q1,q2,q3⟩:=b
 replace h:=V.agg.inj h
 obtain⟨h0,h⟩:=List.cons.inj h
 obtain rfl:=bz p0 q0 h0
 obtain⟨h1,h⟩:=List.cons.inj h
 obtain rfl:=bz p1 q1 h1
 obtain⟨h2,h⟩:=List.cons.inj h
 obtain rfl:=bz p2 q2 h2
 obtain⟨h3,h⟩:=List.cons.inj h
 obtain rfl:=bz p3 q3 h3
 rfl
structure State where
 Day:Int
 Facts:List aa
 Duties:List Duty
 Balances:List Int
 Over:Bool
def b9 (x:State):V:=.agg [I x.Day,.isl false (x.Facts.map str),.isl false (x.Duties.map ae),.isl false (x.Balances.map I),B x.Over]
abbrev ak (x:State):V:=.agg [I x.Day,.isl false (x.Facts.map str),.isl false (x.Duties.map ae),.isl false (x.Balances.map I),B x.Over]
theorem cZ (a b:State)(h:b9 a=b9 b):a=b:=by
 obtain⟨p0,p1,p2,p3,p4⟩:=a
 obtain⟨q0,q1,q2,q3,q4⟩:=b
 replace h:=V.agg.inj h
 obtain⟨h0,h⟩:=List.cons.inj h
 obtain rfl:=bz p0 q0 h0
 obtain⟨h1,h⟩:=List.cons.inj h
 obtain rfl:=(bv ba) p1 q1 h1
 obtain⟨h2,h⟩:=List.cons.inj h
 obtain rfl:=(bv dH) p2 q2 h2
 obtain⟨h3,h⟩:=List.cons.inj h
 obtain rfl:=(bv bz) p3 q3 h3
 obtain⟨h4,h⟩:=List.cons.inj h
 obtain rfl:=BC p4 q4 h4
 rfl
structure l9Run where
 f_c:Contract
 f_s:State
 f_bad:Bool
def cN (x:l9Run):V:=.agg [.isl false (x.f_c.Parties.map str),.isl false (x.f_c.Clauses.map aj),I x.f_s.Day,.isl false (x.f_s.Facts.map str),.isl false (x.f_s.Duties.map ae),.isl false (x.f_s.Balances.map I),B x.f_s.Over,B x.f_bad]
abbrev YC (x:l9Run):V:=.agg [.isl false (x.f_c.Parties.map str),.isl false (x.f_c.Clauses.map aj),I x.f_s.Day,.isl false (x.f_s.Facts.map str),.isl false (x.f_s.Duties.map ae),.isl false (x.f_s.Balances.map I),B x.f_s.Over,B x.f_bad]
theorem oa (a b:l9Run)(h:cN a=cN b):a=b:=by
 obtain⟨⟨p0,p1⟩,⟨p2,p3,p4,p5,p6⟩,p7⟩:=a
 obtain⟨⟨q0,q1⟩,⟨q2,q3,q4,q5,q6⟩,q7⟩:=b
 replace h:=V.agg.inj h
 obtain⟨h0,h⟩:=List.cons.inj h
 obtain rfl:=(bv ba) p0 q0 h0
 obtain⟨h1,h⟩:=List.cons.inj h
 obtain rfl:=(bv cC) p1 q1 h1
 obtain⟨h2,h⟩:=List.cons.inj h
 obtain rfl:=bz p2 q2 h2
 obtain⟨h3,h⟩:=List.cons.inj h
 obtain rfl:=(bv ba) p3 q3 h3
 obtain⟨h4,h⟩:=List.cons.inj h
 obtain rfl:=(bv dH) p4 q4 h4
 obtain⟨h5,h⟩:=List.cons.inj h
 obtain rfl:=(bv bz) p5 q5 h5
 obtain⟨h6,h⟩:=List.cons.inj h
 obtain rfl:=BC p6 q6 h6
 obtain⟨h7,h⟩:=List.cons.inj h
 obtain rfl:=BC p7 q7 h7
 rfl
structure Entry where
 Day:Int
 Kind:Int
 Clause:Int
 Party:Int
def iw (x:Entry):V:=.agg [I x.Day,I x.Kind,I x.Clause,I x.Party]
abbrev abh (x:Entry):V:=.agg [I x.Day,I x.Kind,I x.Clause,I x.Party]
theorem HS (x:Entry):d6 (iw x)=iw x:=rfl
theorem HT (a b:Entry)(h:iw a=iw b):a=b:=by
 obtain⟨p0,p1,p2,p3⟩:=a
 obtain⟨q0,q1,q2,q3⟩:=b
 replace h:=V.agg.inj h
 obtain⟨h0,h⟩:=List.cons.inj h
 obtain rfl:=bz p0 q0 h0
 obtain⟨h1,h⟩:=List.cons.inj h
 obtain rfl:=bz p1 q1 h1
 obtain⟨h2,h⟩:=List.cons.inj h
 obtain rfl:=bz p2 q2 h2
 obtain⟨h3,h⟩:=List.cons.inj h
 obtain rfl:=bz p3 q3 h3
 rfl
structure machine where
 f_c:Contract
 f_s:State
 f_names:List aa
 f_trace:List Entry
 f_failed:Bool
def cd (x:machine):V:=.agg [.isl false (x.f_c.Parties.map str),.isl false (x.f_c.Clauses.map aj),I x.f_s.Day,.isl false (x.f_s.Facts.map str),.isl false (x.f_s.Duties.map ae),.isl false (x.f_s.Balances.map I),B x.f_s.Over,.isl false (x.f_names.map str),.isl false (x.f_trace.map iw),B x.f_failed]
abbrev W8 (x:machine):V:=.agg [.isl false (x.f_c.Parties.map str),.isl false (x.f_c.Clauses.map aj),I x.f_s.Day,.isl false (x.f_s.Facts.map str),.isl false (x.f_s.Duties.map ae),.isl false (x.f_s.Balances.map I),B x.f_s.Over,.isl false (x.f_names.map str),.isl false (x.f_trace.map iw),B x.f_failed]
theorem hP (a b:machine)(h:cd a=cd b):a=b:=by
 obtain⟨⟨p0,p1⟩,⟨p2,p3,p4,p5,p6⟩,p7,p8,p9⟩:=a
 obtain⟨⟨q0,q1⟩,⟨q2,q3,q4,q5,q6⟩,q7,q8,q9⟩:=b
 replace h:=V.agg.inj h
 obtain⟨h0,h⟩:=List.cons.inj h
 obtain rfl:=(bv ba) p0 q0 h0
 obtain⟨h1,h⟩:=List.cons.inj h
 obtain rfl:=(bv cC) p1 q1 h1
 obtain⟨h2,h⟩:=List.cons.inj h
 obtain rfl:=bz p2 q2 h2
 obtain⟨h3,h⟩:=List.cons.inj h
 obtain rfl:=(bv ba) p3 q3 h3
 obtain⟨h4,h⟩:=List.cons.inj h
 obtain rfl:=(bv dH) p4 q4 h4
 obtain⟨h5,h⟩:=List.cons.inj h
 obtain rfl:=(bv bz) p5 q5 h5
 obtain⟨h6,h⟩:=List.cons.inj h
 obtain rfl:=BC p6 q6 h6
 obtain⟨h7,h⟩:=List.cons.inj h
 obtain rfl:=(bv ba) p7 q7 h7
 obtain⟨h8,h⟩:=List.cons.inj h
 obtain rfl:=(bv HT) p8 q8 h8
 obtain⟨h9,h⟩:=List.cons.inj h
 obtain rfl:=BC p9 q9 h9
 rfl
def Kv (x:machine):V:=.agg [.isl false (x.f_c.Parties.map str),.isl false (x.f_c.Clauses.map aj),I x.f_s.Day,.usl 1 (x.f_s.Facts.map str),.usl 4 (x.f_s.Duties.map ae),.usl 1 (x.f_s.Balances.map I),B x.f_s.Over,.usl 1 (x.f_names.map str),.usl 4 (x.f_trace.map iw),B x.f_failed]
abbrev W9 (x:machine):V:=.agg [.isl false (x.f_c.Parties.map str),.isl false (x.f_c.Clauses.map aj),I x.f_s.Day,.usl 1 (x.f_s.Facts.map str),.usl 4 (x.f_s.Duties.map ae),.usl 1 (x.f_s.Balances.map I),B x.f_s.Over,.usl 1 (x.f_names.map str),.usl 4 (x.f_trace.map iw),B x.f_failed]
mutual
def nO:Condition→Prop
 | ⟨a0,a1,a2,a3⟩=>mY a0∧wx a1∧mY a2∧(a3.length≤maxLen∧Jx a3)
def Jx:List Condition→Prop
 | []=>True
 | x::xs=>nO x∧Jx xs
end
theorem Jy:∀xs,Jx xs↔∀x∈xs,nO x
 | []=>by simp[Jx]
 | x::xs=>by simp[Jx,Jy xs]
theorem Jw (x:Condition):nO x↔mY x.Op∧wx x.Name∧mY x.Day∧rc nO x.Parts:=by cases x;simp only[nO,Jy,rc]
def re (x:Clause):Prop:=wx x.Id∧mY x.Kind∧mY x.Party∧wx x.Action∧mY x.Other∧mY x.Amount∧nO x.When∧mY x.Within∧wx x.Repair
def Ul (x:Contract):Prop:=(rc wx) x.Parties∧(rc re) x.Clauses
def GR (x:Duty):Prop:=mY x.Clause∧mY x.Since∧mY x.Due∧mY x.Status
def Bp (x:State):Prop:=mY x.Day∧(rc wx) x.Facts∧(rc GR) x.Duties∧(rc mY) x.Balances∧okB x.Over
def mc (a_1:List aa)(ap:Int)(self:(Int×Int)→Option (Int⊕Int))(x3:Int×Int):Option (Int⊕Int):=
 bif (decide (x3.2<(len a_1))) then ((aP a_1 x3.2).bind fun e4=>bif (decide ((az (x3.1 - (len e4)))<0)) then (some (.inl (-1))) else (self ((az (x3.1 - (len e4))),(az (x3.2+1))))) else (some (.inr x3.1))
def rU (a_1:List aa)(ap:Int): (Int×Int)→Option (Int⊕Int):=aN (mc a_1 ap)
theorem xC (a_1:List aa)(ap:Int): ∀a,Fin1 fun f=>mc a_1 ap f a:=by
 unfold mc
 repeat first|intro _|exact be|exact bF|apply bM|apply bw|apply bx|apply bD|apply bN
theorem Ns (a_1:List aa)(ap:Int)(x:Int×Int):rU a_1 ap x=mc a_1 ap (rU a_1 ap) x:=bT (xC a_1 ap) x
def vi (a_1:List aa)(ap:Int):Option Int:=
 bif (decide ((az (ap - (len a_1)))<0)) then (some (-1)) else (bd (ρ:=Int) (rU a_1 ap ((az (ap - (len a_1))),0)) fun u5:Int=>some u5)
def ko (bh:(Condition×Int)→Option Int)(a_1:List Condition)(ap:Int)(self:(Int×Int)→Option (Int⊕Int))(x3:Int×Int):Option (Int⊕Int):=
 bif (decide (x3.2<(len a_1))) then ((aP a_1 x3.2).bind fun e4=>(bh (e4,x3.1)).bind fun r5=>bif (decide (r5<0)) then (some (.inl (-1))) else (self (r5,(az (x3.2+1))))) else (some (.inr x3.1))
def pQ (bh:(Condition×Int)→Option Int)(a_1:List Condition)(ap:Int): (Int×Int)→Option (Int⊕Int):=aN (ko bh a_1 ap)
theorem xB (bh:(Condition×Int)→Option Int)(a_1:List Condition)(ap:Int): ∀a,Fin1 fun f=>ko bh a_1 ap f a:=by
 unfold ko
 repeat first|intro _|exact be|exact bF|apply bM|apply bw|apply bx|apply bD|apply bN
theorem Nq (bh:(Condition×Int)→Option Int)(a_1:List Condition)(ap:Int)(x:Int×Int):pQ bh a_1 ap x=ko bh a_1 ap (pQ bh a_1 ap) x:=bT (xB bh a_1 ap) x
def vh (bh:(Condition×Int)→Option Int)(a_1:List Condition)(ap:Int):Option Int:=
 bif (decide ((az (ap - (len a_1)))<0)) then (some (-1)) else (bd (ρ:=Int) (pQ bh a_1 ap ((az (ap - (len a_1))),0)) fun u6:Int=>some u6)
def rT (bh:(Condition×Int)→Option Int)(a_1:Condition)(ap:Int):Option Int:=
 bif (decide ((az (ap - (len a_1.Name)))<0)) then (some (-1)) else ((vh bh a_1.Parts (az (ap - (len a_1.Name)))).bind fun r3=>bif (decide (r3<0)) then (some (-1)) else (some r3))
def oK (bh:(Condition×Int)→Option Int)(x:Condition×Int):Option Int:=rT bh x.1 x.2
def ve (a_1:Condition)(ap:Int):Option Int:=aN oK (a_1,ap)
theorem T0:∀x,Fin1 fun bh=>oK bh x:=by
 unfold oK rT
 repeat first|intro _|exact be|exact bF|exact jW|exact mH|exact iD|exact kK|exact jo|exact jp|apply bM|apply bw|apply bx|apply bD|apply bN|apply qS|unfold vh|unfold pQ|unfold ko
theorem Xd (a_1:Condition)(ap:Int):ve a_1 ap=rT (aN oK) a_1 ap:=bT T0 (a_1,ap)
def tz (a_1:Clause)(ap:Int):Option Int:=
 bif (decide ((az (ap - (len a_1.Id)))<0)) then (some (-1)) else (bif (decide ((az ((az (ap - (len a_1.Id))) - (len a_1.Action)))<0)) then (some (-1)) else ((ve a_1.When (az ((az (ap - (len a_1.Id))) - (len a_1.Action)))).bind fun r3=>bif (decide (r3<0)) then (some (-1)) else (bif (decide ((az (r3 - (len a_1.Repair)))<0)) then (some (-1)) else (some (az (r3 - (len a_1.Repair)))))))
def mb (a_1:List Clause)(ap:Int)(self:(Int×Int)→Option (Int⊕Int))(x3:Int×Int):Option (Int⊕Int):=
 bif (decide (x3.2<(len a_1))) then ((aP a_1 x3.2).bind fun e4=>(tz e4 x3.1).bind fun r5=>bif (decide (r5<0)) then (some (.inl (-1))) else (self (r5,(az (x3.2+1))))) else (some (.inr x3.1))
def rS (a_1:List Clause)(ap:Int): (Int×Int)→Option (Int⊕Int):=aN (mb a_1 ap)
theorem xA (a_1:List Clause)(ap:Int): ∀a,Fin1 fun f=>mb a_1 ap f a:=by
 unfold mb
 repeat first|intro _|exact be|exact bF|apply bM|apply bw|apply bx|apply bD|apply bN
theorem Np (a_1:List Clause)(ap:Int)(x:Int×Int):rS a_1 ap x=mb a_1 ap (rS a_1 ap) x:=bT (xA a_1 ap) x
def zq (a_1:List Clause)(ap:Int):Option Int:=
 bif (decide ((az (ap - (len a_1)))<0)) then (some (-1)) else (bd (ρ:=Int) (rS a_1 ap ((az (ap - (len a_1))),0)) fun u6:Int=>some u6)
def zw (a_1:Contract)(ap:Int):Option Int:=
 (vi a_1.Parties ap).bind fun r3=>bif (decide (r3<0)) then (some (-1)) else ((zq a_1.Clauses r3).bind fun r4=>bif (decide (r4<0)) then (some (-1)) else (some r4))
def zy (a_1:List Duty)(ap:Int):Option Int:=
 bif (decide ((az (ap - (len a_1)))<0)) then (some (-1)) else (some (az (ap - (len a_1))))
def zA (a_1:List Int)(ap:Int):Option Int:=
 bif (decide ((az (ap - (len a_1)))<0)) then (some (-1)) else (some (az (ap - (len a_1))))
def zC (a_1:State)(ap:Int):Option Int:=
 (vi a_1.Facts ap).bind fun r3=>bif (decide (r3<0)) then (some (-1)) else ((zy a_1.Duties r3).bind fun r4=>bif (decide (r4<0)) then (some (-1)) else ((zA a_1.Balances r4).bind fun r5=>bif (decide (r5<0)) then (some (-1)) else (some r5)))
def mg (a_1:List aa)(self:(Int×(List aa))→Option ((List aa)⊕(List aa)))(x3:Int×(List aa)):Option ((List aa)⊕(List aa)):=
 bif (decide (x3.1<(len a_1))) then ((aP a_1 x3.1).bind fun e4=>(aP x3.2 x3.1).bind fun e5=>self ((az (x3.1+1)),(fO x3.2 x3.1 e4))) else (some (.inr x3.2))
def sa (a_1:List aa): (Int×(List aa))→Option ((List aa)⊕(List aa)):=aN (mg a_1)
theorem xH (a_1:List aa): ∀a,Fin1 fun f=>mg a_1 f a:=by
 unfold mg
 repeat first|intro _|exact be|exact bF|apply bM|apply bw|apply bx|apply bD|apply bN
theorem Nx (a_1:List aa)(x:Int×(List aa)):sa a_1 x=mg a_1 (sa a_1) x:=bT (xH a_1) x
def vq (a_1:List aa):Option (List aa):=
 (qY 16 [] (len a_1)).bind fun m2=>bd (ρ:=(List aa)) (sa a_1 (0,m2)) fun u6:(List aa)=>some u6
def kq (bi:Condition→Option Condition)(a_1:List Condition)(self:(Int×(List Condition))→Option ((List Condition)⊕(List Condition)))(x3:Int×(List Condition)):Option ((List Condition)⊕(List Condition)):=
 bif (decide (x3.1<(len a_1))) then ((aP a_1 x3.1).bind fun e4=>(bi e4).bind fun r5=>(aP x3.2 x3.1).bind fun e6=>self ((az (x3.1+1)),(fO x3.2 x3.1 r5))) else (some (.inr x3.2))
def pR (bi:Condition→Option Condition)(a_1:List Condition): (Int×(List Condition))→Option ((List Condition)⊕(List Condition)):=aN (kq bi a_1)
theorem xE (bi:Condition→Option Condition)(a_1:List Condition): ∀a,Fin1 fun f=>kq bi a_1 f a:=by
 unfold kq
 repeat first|intro _|exact be|exact bF|apply bM|apply bw|apply bx|apply bD|apply bN
theorem Nu (bi:Condition→Option Condition)(a_1:List Condition)(x:Int×(List Condition)):pR bi a_1 x=kq bi a_1 (pR bi a_1) x:=bT (xE bi a_1) x
def vm (bi:Condition→Option Condition)(a_1:List Condition):Option (List Condition):=
 (qY 56 (Condition.mk 0 [] 0 []) (len a_1)).bind fun m2=>bd (ρ:=(List Condition)) (pR bi a_1 (0,m2)) fun u7:(List Condition)=>some u7
def rX (bi:Condition→Option Condition)(a_1:Condition):Option Condition:=
 (vm bi a_1.Parts).bind fun r2=>some (Condition.mk a_1.Op a_1.Name a_1.Day r2)
def oL (bi:Condition→Option Condition)(x:Condition):Option Condition:=rX bi x
def zH (a_1:Condition):Option Condition:=aN oL a_1
theorem Uc:∀x,Fin1 fun bi=>oL bi x:=by
 unfold oL rX
 repeat first|intro _|exact be|exact bF|exact jW|exact mH|exact iD|exact kK|exact jo|exact jp|apply bM|apply bw|apply bx|apply bD|apply bN|apply qS|unfold vm|unfold pR|unfold kq
theorem Xf (a_1:Condition):zH a_1=rX (aN oL) a_1:=bT Uc a_1
def vj (a_1:Clause):Option Clause:=
 (zH a_1.When).bind fun r2=>some (Clause.mk a_1.Id a_1.Kind a_1.Party a_1.Action a_1.Other a_1.Amount r2 a_1.Within a_1.Repair)
def md (a_1:List Clause)(self:(Int×(List Clause))→Option ((List Clause)⊕(List Clause)))(x3:Int×(List Clause)):Option ((List Clause)⊕(List Clause)):=
 bif (decide (x3.1<(len a_1))) then ((aP a_1 x3.1).bind fun e4=>(vj e4).bind fun r5=>(aP x3.2 x3.1).bind fun e6=>self ((az (x3.1+1)),(fO x3.2 x3.1 r5))) else (some (.inr x3.2))
def rV (a_1:List Clause): (Int×(List Clause))→Option ((List Clause)⊕(List Clause)):=aN (md a_1)
theorem xD (a_1:List Clause): ∀a,Fin1 fun f=>md a_1 f a:=by
 unfold md
 repeat first|intro _|exact be|exact bF|apply bM|apply bw|apply bx|apply bD|apply bN
theorem Nt (a_1:List Clause)(x:Int×(List Clause)):rV a_1 x=md a_1 (rV a_1) x:=bT (xD a_1) x
def zF (a_1:List Clause):Option (List Clause):=
 (qY 144 (Clause.mk [] 0 0 [] 0 0 (Condition.mk 0 [] 0 []) 0 []) (len a_1)).bind fun m2=>bd (ρ:=(List Clause)) (rV a_1 (0,m2)) fun u7:(List Clause)=>some u7
def tB (a_1:Contract):Option Contract:=
 (vq a_1.Parties).bind fun r2=>(zF a_1.Clauses).bind fun r3=>some (Contract.mk r2 r3)
def vo (a_1:Duty):Option Duty:=
 some a_1
def me (a_1:List Duty)(self:(Int×(List Duty))→Option ((List Duty)⊕(List Duty)))(x3:Int×(List Duty)):Option ((List Duty)⊕(List Duty)):=
 bif (decide (x3.1<(len a_1))) then ((aP a_1 x3.1).bind fun e4=>(vo e4).bind fun r5=>(aP x3.2 x3.1).bind fun e6=>self ((az (x3.1+1)),(fO x3.2 x3.1 r5))) else (some (.inr x3.2))
def rY (a_1:List Duty): (Int×(List Duty))→Option ((List Duty)⊕(List Duty)):=aN (me a_1)
theorem xF (a_1:List Duty): ∀a,Fin1 fun f=>me a_1 f a:=by
 unfold me
 repeat first|intro _|exact be|exact bF|apply bM|apply bw|apply bx|apply bD|apply bN
theorem Nv (a_1:List Duty)(x:Int×(List Duty)):rY a_1 x=me a_1 (rY a_1) x:=bT (xF a_1) x
def zM (a_1:List Duty):Option (List Duty):=
 (qY 32 (Duty.mk 0 0 0 0) (len a_1)).bind fun m2=>bd (ρ:=(List Duty)) (rY a_1 (0,m2)) fun u7:(List Duty)=>some u7
def mf (a_1:List Int)(self:(Int×(List Int))→Option ((List Int)⊕(List Int)))(x3:Int×(List Int)):Option ((List Int)⊕(List Int)):=
 bif (decide (x3.1<(len a_1))) then ((aP a_1 x3.1).bind fun e4=>(aP x3.2 x3.1).bind fun e5=>self ((az (x3.1+1)),(fO x3.2 x3.1 e4))) else (some (.inr x3.2))
def rZ (a_1:List Int): (Int×(List Int))→Option ((List Int)⊕(List Int)):=aN (mf a_1)
theorem xG (a_1:List Int): ∀a,Fin1 fun f=>mf a_1 f a:=by
 unfold mf
 repeat first|intro _|exact be|exact bF|apply bM|apply bw|apply bx|apply bD|apply bN
theorem Nw (a_1:List Int)(x:Int×(List Int)):rZ a_1 x=mf a_1 (rZ a_1) x:=bT (xG a_1) x
def zO (a_1:List Int):Option (List Int):=
 (qY 8 0 (len a_1)).bind fun m2=>bd (ρ:=(List Int)) (rZ a_1 (0,m2)) fun u6:(List Int)=>some u6
def tC (a_1:State):Option State:=
 (vq a_1.Facts).bind fun r2=>(zM a_1.Duties).bind fun r3=>(zO a_1.Balances).bind fun r4=>some (State.mk a_1.Day r2 r3 r4 a_1.Over)
def dY (x_1:Int)(a_2:Int)(b_3:Int):Option Bool:=
 cU (bif (decide (x_1≥a_2)) then (decide (x_1≤b_3)) else false) fun u4:Bool=>some u4
def vI (b_1:Int):Option Bool:=
 cU (bif (decide (b_1≥97)) then (cU (bif (decide (b_1≤122)) then true else (cU (bif (decide (b_1≥48)) then (decide (b_1≤57)) else false) fun u4:Bool=>u4)) fun u3:Bool=>u3) else (cU (bif (decide (b_1≥48)) then (decide (b_1≤57)) else false) fun u5:Bool=>u5)) fun u2:Bool=>some u2
def mq (s_1:aa)(self:Int→Option (Bool⊕Unit))(x4:Int):Option (Bool⊕Unit):=
 bif (decide (x4<(len s_1))) then ((aP s_1 x4).bind fun c5=>(vI (c5.toNat:Int)).bind fun r6=>bif (!r6) then (some (.inl false)) else (self (az (x4+1)))) else (some (.inr ()))
def ss (s_1:aa): Int→Option (Bool⊕Unit):=aN (mq s_1)
theorem xV (s_1:aa): ∀a,Fin1 fun f=>mq s_1 f a:=by
 unfold mq
 repeat first|intro _|exact be|exact bF|apply bM|apply bw|apply bx|apply bD|apply bN
theorem NG (s_1:aa)(x:Int):ss s_1 x=mq s_1 (ss s_1) x:=bT (xV s_1) x
def pg (s_1:aa):Option Bool:=
 (dY (len s_1) 1 8).bind fun r2=>bd (ρ:=Bool) (bif (!r2) then (some (.inr true)) else ((aP s_1 0).bind fun c16=>b7 (ρ:=Bool) (bif (decide ((c16.toNat:Int)<97)) then (some (.inr true)) else ((aP s_1 0).bind fun c18=>some (.inr (decide ((c18.toNat:Int)>122))))) fun u17:Bool=>some (.inr u17))) fun u3:Bool=>bif u3 then (some false) else (bd (ρ:=Bool) (ss s_1 0) fun u7:Unit=>cU (bif (s_1==([116,114,117,101]:aa)) then (s_1==([116,114,117,101]:aa)) else (cU (bif (s_1==([102,114,111,109]:aa)) then (s_1==([102,114,111,109]:aa)) else (cU (bif (s_1==([110,111,116]:aa)) then (s_1==([110,111,116]:aa)) else (cU (bif (s_1==([97,110,100]:aa)) then (s_1==([97,110,100]:aa)) else (cU (bif (s_1==([111,114]:aa)) then (s_1==([111,114]:aa)) else (cU (bif (s_1==([98,111,116,104]:aa)) then (s_1==([98,111,116,104]:aa)) else (cU (bif (s_1==([101,105,116,104,101,114]:aa)) then (s_1==([101,105,116,104,101,114]:aa)) else (cU (bif (s_1==([105,116]:aa)) then (s_1==([105,116]:aa)) else (s_1==([105,110]:aa))) fun u15:Bool=>u15)) fun u14:Bool=>u14)) fun u13:Bool=>u13)) fun u12:Bool=>u12)) fun u11:Bool=>u11)) fun u10:Bool=>u10)) fun u9:Bool=>u9)) fun u8:Bool=>bif u8 then (some false) else (some true))
def kv (ar:List aa)(ey:aa)(self:Int→Option (Bool⊕Unit))(x3:Int):Option (Bool⊕Unit):=
 bif (decide (x3<(len ar))) then ((aP ar x3).bind fun e4=>bif (e4==ey) then (some (.inl true)) else (self (az (x3+1)))) else (some (.inr ()))
def pU (ar:List aa)(ey:aa): Int→Option (Bool⊕Unit):=aN (kv ar ey)
theorem xU (ar:List aa)(ey:aa): ∀a,Fin1 fun f=>kv ar ey f a:=by
 unfold kv
 repeat first|intro _|exact be|exact bF|apply bM|apply bw|apply bx|apply bD|apply bN
theorem DT (ar:List aa)(ey:aa)(x:Int):pU ar ey x=kv ar ey (pU ar ey) x:=bT (xU ar ey) x
def pf (ar:List aa)(ey:aa):Option Bool:=
 bd (ρ:=Bool) (pU ar ey 0) fun u5:Unit=>some false
def kC (c_1:Contract)(self:Int→Option (Bool⊕Unit))(x2:Int):Option (Bool⊕Unit):=
 bif (decide (x2<(len c_1.Parties))) then ((aP c_1.Parties x2).bind fun e3=>(pg e3).bind fun r4=>b7 (ρ:=Bool) (bif (!r4) then (some (.inr true)) else ((pn c_1.Parties 0 x2).bind fun s6=>(aP c_1.Parties x2).bind fun e7=>(pf s6 e7).bind fun r8=>some (.inr r8))) fun u5:Bool=>bif u5 then (some (.inl false)) else (self (az (x2+1)))) else (some (.inr ()))
def sF (c_1:Contract): Int→Option (Bool⊕Unit):=aN (kC c_1)
theorem yf (c_1:Contract): ∀a,Fin1 fun f=>kC c_1 f a:=by
 unfold kC
 repeat first|intro _|exact be|exact bF|apply bM|apply bw|apply bx|apply bD|apply bN
theorem El (c_1:Contract)(x:Int):sF c_1 x=kC c_1 (sF c_1) x:=bT (yf c_1) x
def vP (c_1:Contract):Option Bool:=
 bd (ρ:=Bool) (sF c_1 0) fun u9:Unit=>(dY (len c_1.Parties) 2 4).bind fun r10=>some r10
def mu (c_1:Contract)(eH:aa)(self:Int→Option (Int⊕Unit))(x3:Int):Option (Int⊕Unit):=
 bif (decide (x3<(len c_1.Clauses))) then ((aP c_1.Clauses x3).bind fun e4=>bif (e4.Id==eH) then (some (.inl x3)) else (self (az (x3+1)))) else (some (.inr ()))
def sD (c_1:Contract)(eH:aa): Int→Option (Int⊕Unit):=aN (mu c_1 eH)
theorem yb (c_1:Contract)(eH:aa): ∀a,Fin1 fun f=>mu c_1 eH f a:=by
 unfold mu
 repeat first|intro _|exact be|exact bF|apply bM|apply bw|apply bx|apply bD|apply bN
theorem NI (c_1:Contract)(eH:aa)(x:Int):sD c_1 eH x=mu c_1 eH (sD c_1 eH) x:=bT (yb c_1 eH) x
def tI (c_1:Contract)(eH:aa):Option Int:=
 bd (ρ:=Int) (sD c_1 eH 0) fun u5:Unit=>some (-1)
def qc (gv:Int):Option Bool:=
 (dY gv 0 36524).bind fun r2=>some r2
def Av (c_1:Condition):Option Bool:=
 bif (c_1.Op==1) then (cU (bif ((len c_1.Parts)==0) then (cU (bif (c_1.Name==([]:aa)) then (c_1.Day==0) else false) fun u3:Bool=>u3) else false) fun u2:Bool=>some u2) else (bif (c_1.Op==2) then (bd (ρ:=Bool) (bif ((len c_1.Parts)==0) then ((pg c_1.Name).bind fun r5=>cU (bif r5 then (c_1.Day==0) else false) fun u6:Bool=>some (.inr u6)) else (some (.inr false))) fun u4:Bool=>some u4) else (bif (c_1.Op==3) then (bd (ρ:=Bool) (bif ((len c_1.Parts)==0) then (b7 (ρ:=Bool) (bif (c_1.Name==([]:aa)) then ((qc c_1.Day).bind fun r9=>some (.inr r9)) else (some (.inr false))) fun u8:Bool=>some (.inr u8)) else (some (.inr false))) fun u7:Bool=>some u7) else (bif (c_1.Op==4) then (cU (bif ((len c_1.Parts)==1) then (cU (bif (c_1.Name==([]:aa)) then (c_1.Day==0) else false) fun u11:Bool=>u11) else false) fun u10:Bool=>some u10) else (cU (bif (c_1.Op==5) then (c_1.Op==5) else (c_1.Op==6)) fun u12:Bool=>bif u12 then (cU (bif ((len c_1.Parts)==2) then (cU (bif (c_1.Name==([]:aa)) then (c_1.Day==0) else false) fun u14:Bool=>u14) else false) fun u13:Bool=>some u13) else (some false)))))
def ku (cl:Condition→Option Bool)(c_1:Condition)(self:Int→Option (Bool⊕Unit))(x3:Int):Option (Bool⊕Unit):=
 bif (decide (x3<(len c_1.Parts))) then ((aP c_1.Parts x3).bind fun e4=>(cl e4).bind fun r5=>bif (!r5) then (some (.inl false)) else (self (az (x3+1)))) else (some (.inr ()))
def pT (cl:Condition→Option Bool)(c_1:Condition): Int→Option (Bool⊕Unit):=aN (ku cl c_1)
theorem xT (cl:Condition→Option Bool)(c_1:Condition): ∀a,Fin1 fun f=>ku cl c_1 f a:=by
 unfold ku
 repeat first|intro _|exact be|exact bF|apply bM|apply bw|apply bx|apply bD|apply bN
theorem NF (cl:Condition→Option Bool)(c_1:Condition)(x:Int):pT cl c_1 x=ku cl c_1 (pT cl c_1) x:=bT (xT cl c_1) x
def sn (cl:Condition→Option Bool)(c_1:Condition):Option Bool:=
 (Av c_1).bind fun r2=>bif (!r2) then (some false) else (bd (ρ:=Bool) (pT cl c_1 0) fun u6:Unit=>some true)
def qe (cl:Condition→Option Bool)(x:Condition):Option Bool:=sn cl x
def Ge (c_1:Condition):Option Bool:=aN qe c_1
theorem UK:∀x,Fin1 fun cl=>qe cl x:=by
 unfold qe sn
 repeat first|intro _|exact be|exact bF|exact jW|exact mH|exact iD|exact kK|exact jo|exact jp|apply bM|apply bw|apply bx|apply bD|apply bN|apply qS|unfold pT|unfold ku
theorem Xh (c_1:Condition):Ge c_1=sn (aN qe) c_1:=bT UK c_1
def jl (cn:Condition→Option Int)(c_1:Condition)(self:(Int×Int)→Option (Int⊕Int))(x2:Int×Int):Option (Int⊕Int):=
 bif (decide (x2.2<(len c_1.Parts))) then ((aP c_1.Parts x2.2).bind fun e3=>(cn e3).bind fun r4=>self ((az (x2.1+r4)),(az (x2.2+1)))) else (some (.inr x2.1))
def kZ (cn:Condition→Option Int)(c_1:Condition): (Int×Int)→Option (Int⊕Int):=aN (jl cn c_1)
theorem xY (cn:Condition→Option Int)(c_1:Condition): ∀a,Fin1 fun f=>jl cn c_1 f a:=by
 unfold jl
 repeat first|intro _|exact be|exact bF|apply bM|apply bw|apply bx|apply bD|apply bN
theorem D4 (cn:Condition→Option Int)(c_1:Condition)(x:Int×Int):kZ cn c_1 x=jl cn c_1 (kZ cn c_1) x:=bT (xY cn c_1) x
def sA (cn:Condition→Option Int)(c_1:Condition):Option Int:=
 bd (ρ:=Int) (kZ cn c_1 (1,0)) fun u5:Int=>some u5
def kz (cn:Condition→Option Int)(x:Condition):Option Int:=sA cn x
def JO (c_1:Condition):Option Int:=aN kz c_1
theorem UW:∀x,Fin1 fun cn=>kz cn x:=by
 unfold kz sA
 repeat first|intro _|exact be|exact bF|exact jW|exact mH|exact iD|exact kK|exact jo|exact jp|apply bM|apply bw|apply bx|apply bD|apply bN|apply qS|unfold kZ|unfold jl
theorem Xk (c_1:Condition):JO c_1=sA (aN kz) c_1:=bT UW c_1
def Az (c_1:Condition):Option Bool:=
 (Ge c_1).bind fun r2=>bd (ρ:=Bool) (bif r2 then ((JO c_1).bind fun r4=>some (.inr (decide (r4≤15)))) else (some (.inr false))) fun u3:Bool=>some u3
def AG (c_1:Contract)(i_2:Int):Option Bool:=
 (aP c_1.Clauses i_2).bind fun e3=>(pg e3.Id).bind fun r4=>bd (ρ:=Bool) (bif (!r4) then (some (.inr true)) else ((pg e3.Action).bind fun r17=>b7 (ρ:=Bool) (bif (!r17) then (some (.inr true)) else ((dY e3.Kind 1 4).bind fun r19=>b7 (ρ:=Bool) (bif (!r19) then (some (.inr true)) else ((dY e3.Party 0 (az ((len c_1.Parties) - 1))).bind fun r21=>b7 (ρ:=Bool) (bif (!r21) then (some (.inr true)) else ((dY e3.Other 0 (az ((len c_1.Parties) - 1))).bind fun r23=>b7 (ρ:=Bool) (bif (!r23) then (some (.inr true)) else (b7 (ρ:=Bool) (bif (e3.Party==e3.Other) then (some (.inr true)) else ((Az e3.When).bind fun r26=>some (.inr (!r26)))) fun u25:Bool=>some (.inr u25))) fun u24:Bool=>some (.inr u24))) fun u22:Bool=>some (.inr u22))) fun u20:Bool=>some (.inr u20))) fun u18:Bool=>some (.inr u18))) fun u5:Bool=>bif u5 then (some false) else ((dY e3.Amount 0 1000000).bind fun r6=>bd (ρ:=Bool) (bif (!r6) then (some (.inr true)) else ((dY e3.Within 0 400).bind fun r13=>cU (bif (!r13) then true else (cU (bif (e3.Kind != 1) then (cU (bif (e3.Amount != 0) then true else (e3.Within != 0)) fun u16:Bool=>u16) else false) fun u15:Bool=>u15)) fun u14:Bool=>some (.inr u14))) fun u7:Bool=>bif u7 then (some false) else (bif (e3.Repair==([]:aa)) then (some true) else ((tI c_1 e3.Repair).bind fun r8=>bd (ρ:=Bool) (bif (decide (r8≥0)) then (b7 (ρ:=Bool) (bif (r8 != i_2) then ((aP c_1.Clauses r8).bind fun e11=>cU (bif (e11.Kind==1) then (e3.Kind != 3) else false) fun u12:Bool=>some (.inr u12)) else (some (.inr false))) fun u10:Bool=>some (.inr u10)) else (some (.inr false))) fun u9:Bool=>some u9)))
def ky (l_8:List aa)(s_9:aa)(self:Int→Option ((List aa)⊕(aa×Int×(List aa))))(x3:Int):Option ((List aa)⊕(aa×Int×(List aa))):=
 b7 (ρ:=(List aa)) (bif (decide (x3<(len l_8))) then ((aP l_8 x3).bind fun e5=>some (.inr (Op.bytesLess e5 s_9))) else (some (.inr false))) fun u4:Bool=>bif u4 then (self (az (x3+1))) else (some (.inr (s_9,x3,l_8)))
def sw (l_8:List aa)(s_9:aa): Int→Option ((List aa)⊕(aa×Int×(List aa))):=aN (ky l_8 s_9)
theorem xX (l_8:List aa)(s_9:aa): ∀a,Fin1 fun f=>ky l_8 s_9 f a:=by
 unfold ky
 repeat first|intro _|exact be|exact bF|apply bM|apply bw|apply bx|apply bD|apply bN
theorem D1 (l_8:List aa)(s_9:aa)(x:Int):sw l_8 s_9 x=ky l_8 s_9 (sw l_8 s_9) x:=bT (xX l_8 s_9) x
def vG (l_8:List aa)(s_9:aa):Option (List aa):=
 bd (ρ:=(List aa)) (sw l_8 s_9 0) fun u6:aa×Int×(List aa)=>bd (ρ:=(List aa)) (bif (decide (u6.2.1<(len u6.2.2))) then ((aP u6.2.2 u6.2.1).bind fun e15=>some (.inr (e15==u6.1))) else (some (.inr false))) fun u7:Bool=>bif u7 then (some u6.2.2) else ((iO u6.2.2.length 0 u6.2.1).bind fun s8=>(iR u6.2.2 (0+Int.toNat (0)) (Int.toNat u6.2.1 - Int.toNat (0))).bind fun p9=>(iB 16 ([]:List aa) p9).bind fun a10=>(iB 16 a10 [u6.1]).bind fun a11=>(iO u6.2.2.length u6.2.1 (len u6.2.2)).bind fun s12=>(iR u6.2.2 (0+Int.toNat u6.2.1) (Int.toNat (len u6.2.2) - Int.toNat u6.2.1)).bind fun p13=>(iB 16 a11 p13).bind fun a14=>some a14)
def jk (cm:((List aa)×Condition)→Option (List aa))(l_4:List aa)(c_5:Condition)(self:(Int×(List aa))→Option ((List aa)⊕(List aa)))(x4:Int×(List aa)):Option ((List aa)⊕(List aa)):=
 bif (decide (x4.1<(len c_5.Parts))) then ((aP c_5.Parts x4.1).bind fun e5=>(cm (x4.2,e5)).bind fun r6=>self ((az (x4.1+1)),r6)) else (some (.inr x4.2))
def kY (cm:((List aa)×Condition)→Option (List aa))(l_4:List aa)(c_5:Condition): (Int×(List aa))→Option ((List aa)⊕(List aa)):=aN (jk cm l_4 c_5)
theorem xW (cm:((List aa)×Condition)→Option (List aa))(l_4:List aa)(c_5:Condition): ∀a,Fin1 fun f=>jk cm l_4 c_5 f a:=by
 unfold jk
 repeat first|intro _|exact be|exact bF|apply bM|apply bw|apply bx|apply bD|apply bN
theorem DY (cm:((List aa)×Condition)→Option (List aa))(l_4:List aa)(c_5:Condition)(x:Int×(List aa)):kY cm l_4 c_5 x=jk cm l_4 c_5 (kY cm l_4 c_5) x:=bT (xW cm l_4 c_5) x
def su (cm:((List aa)×Condition)→Option (List aa))(l_4:List aa)(c_5:Condition):Option (List aa):=
 bif (c_5.Op==2) then ((vG l_4 c_5.Name).bind fun r3=>some r3) else (bd (ρ:=(List aa)) (kY cm l_4 c_5 (0,l_4)) fun u7:(List aa)=>some u7)
def kx (cm:((List aa)×Condition)→Option (List aa))(x:(List aa)×Condition):Option (List aa):=su cm x.1 x.2
def JL (l_4:List aa)(c_5:Condition):Option (List aa):=aN kx (l_4,c_5)
theorem US:∀x,Fin1 fun cm=>kx cm x:=by
 unfold kx su
 repeat first|intro _|exact be|exact bF|exact jW|exact mH|exact iD|exact kK|exact jo|exact jp|apply bM|apply bw|apply bx|apply bD|apply bN|apply qS|unfold kY|unfold jk
theorem Xj (l_4:List aa)(c_5:Condition):JL l_4 c_5=su (aN kx) l_4 c_5:=bT US (l_4,c_5)
def kB (c_1:Contract)(self:(Int×(List aa))→Option ((List aa)⊕(List aa)))(x2:Int×(List aa)):Option ((List aa)⊕(List aa)):=
 bif (decide (x2.1<(len c_1.Clauses))) then ((aP c_1.Clauses x2.1).bind fun e3=>(vG x2.2 e3.Action).bind fun r4=>(aP c_1.Clauses x2.1).bind fun e5=>(JL r4 e5.When).bind fun r6=>self ((az (x2.1+1)),r6)) else (some (.inr x2.2))
def mw (c_1:Contract): (Int×(List aa))→Option ((List aa)⊕(List aa)):=aN (kB c_1)
theorem ye (c_1:Contract): ∀a,Fin1 fun f=>kB c_1 f a:=by
 unfold kB
 repeat first|intro _|exact be|exact bF|apply bM|apply bw|apply bx|apply bD|apply bN
theorem Eh (c_1:Contract)(x:Int×(List aa)):mw c_1 x=kB c_1 (mw c_1) x:=bT (ye c_1) x
def nT (c_1:Contract):Option (List aa):=
 bd (ρ:=(List aa)) (mw c_1 (0,[])) fun u7:(List aa)=>some u7
def kA (c_1:Contract)(self:Int→Option (Bool⊕Unit))(x4:Int):Option (Bool⊕Unit):=
 bif (decide (x4<(len c_1.Clauses))) then ((aP c_1.Clauses x4).bind fun e5=>(tI c_1 e5.Id).bind fun r6=>b7 (ρ:=Bool) (bif (r6 != x4) then (some (.inr true)) else ((AG c_1 x4).bind fun r8=>some (.inr (!r8)))) fun u7:Bool=>bif u7 then (some (.inl false)) else (self (az (x4+1)))) else (some (.inr ()))
def la (c_1:Contract): Int→Option (Bool⊕Unit):=aN (kA c_1)
theorem yd (c_1:Contract): ∀a,Fin1 fun f=>kA c_1 f a:=by
 unfold kA
 repeat first|intro _|exact be|exact bF|apply bM|apply bw|apply bx|apply bD|apply bN
theorem Ee (c_1:Contract)(x:Int):la c_1 x=kA c_1 (la c_1) x:=bT (yd c_1) x
def AK (c_1:Contract):Option Bool:=
 (dY (len c_1.Clauses) 1 12).bind fun r2=>bd (ρ:=Bool) (bif (!r2) then (some (.inr true)) else ((vP c_1).bind fun r11=>some (.inr (!r11)))) fun u3:Bool=>bif u3 then (some false) else (bd (ρ:=Bool) (la c_1 0) fun u9:Unit=>(nT c_1).bind fun r10=>some (decide ((len r10)≤16)))
def jj (ar:List aa)(self:Int→Option (Bool⊕Unit))(x2:Int):Option (Bool⊕Unit):=
 cU (bif (decide (x2<(len ar))) then (decide (x2≤16)) else false) fun u3:Bool=>bif u3 then ((aP ar x2).bind fun e4=>(pg e4).bind fun r5=>b7 (ρ:=Bool) (bif (!r5) then (some (.inr true)) else (b7 (ρ:=Bool) (bif (decide (x2>0)) then ((aP ar (az (x2 - 1))).bind fun e8=>(aP ar x2).bind fun e9=>some (.inr (!(Op.bytesLess e8 e9)))) else (some (.inr false))) fun u7:Bool=>some (.inr u7))) fun u6:Bool=>bif u6 then (some (.inl false)) else (self (az (x2+1)))) else (some (.inr ()))
def il (ar:List aa): Int→Option (Bool⊕Unit):=aN (jj ar)
theorem xS (ar:List aa): ∀a,Fin1 fun f=>jj ar f a:=by
 unfold jj
 repeat first|intro _|exact be|exact bF|apply bM|apply bw|apply bx|apply bD|apply bN
theorem tG (ar:List aa)(x:Int):il ar x=jj ar (il ar) x:=bT (xS ar) x
def Ar (ar:List aa):Option Bool:=
 bd (ρ:=Bool) (il ar 0) fun u10:Unit=>some (decide ((len ar)≤16))
def mt (c_1:Contract)(i_2:Int)(self:Int→Option (Bool⊕Unit))(x3:Int):Option (Bool⊕Unit):=
 bif (decide (x3<(len c_1.Clauses))) then ((aP c_1.Clauses x3).bind fun e4=>(aP c_1.Clauses i_2).bind fun e5=>bif (e4.Repair==e5.Id) then (some (.inl true)) else (self (az (x3+1)))) else (some (.inr ()))
def sC (c_1:Contract)(i_2:Int): Int→Option (Bool⊕Unit):=aN (mt c_1 i_2)
theorem xZ (c_1:Contract)(i_2:Int): ∀a,Fin1 fun f=>mt c_1 i_2 f a:=by
 unfold mt
 repeat first|intro _|exact be|exact bF|apply bM|apply bw|apply bx|apply bD|apply bN
theorem NH (c_1:Contract)(i_2:Int)(x:Int):sC c_1 i_2 x=mt c_1 i_2 (sC c_1 i_2) x:=bT (xZ c_1 i_2) x
def AI (c_1:Contract)(i_2:Int):Option Bool:=
 bd (ρ:=Bool) (sC c_1 i_2 0) fun u6:Unit=>some false
def kD (s_1:State)(i_2:Int)(self:(Int×Int)→Option (Int⊕Int))(x3:Int×Int):Option (Int⊕Int):=
 bif (decide (x3.2<(len s_1.Duties))) then ((aP s_1.Duties x3.2).bind fun e4=>cU (bif (e4.Clause==i_2) then (az (x3.1+1)) else x3.1) fun u5:Int=>self (u5,(az (x3.2+1)))) else (some (.inr x3.1))
def lb (s_1:State)(i_2:Int): (Int×Int)→Option (Int⊕Int):=aN (kD s_1 i_2)
theorem yg (s_1:State)(i_2:Int): ∀a,Fin1 fun f=>kD s_1 i_2 f a:=by
 unfold kD
 repeat first|intro _|exact be|exact bF|apply bM|apply bw|apply bx|apply bD|apply bN
theorem Es (s_1:State)(i_2:Int)(x:Int×Int):lb s_1 i_2 x=kD s_1 i_2 (lb s_1 i_2) x:=bT (yg s_1 i_2) x
def AP (s_1:State)(i_2:Int):Option Int:=
 bd (ρ:=Int) (lb s_1 i_2 (0,0)) fun u6:Int=>some u6
def AR (c_1:Contract)(s_2:State)(k_3:Int):Option Bool:=
 (aP s_2.Duties k_3).bind fun e4=>(dY e4.Clause 0 (az ((len c_1.Clauses) - 1))).bind fun r5=>bd (ρ:=Bool) (bif (!r5) then (some (.inr true)) else ((aP c_1.Clauses e4.Clause).bind fun e35=>b7 (ρ:=Bool) (bif (e35.Kind != 1) then (some (.inr true)) else ((dY e4.Since 0 s_2.Day).bind fun r37=>b7 (ρ:=Bool) (bif (!r37) then (some (.inr true)) else ((aP c_1.Clauses e4.Clause).bind fun e39=>b7 (ρ:=Bool) (bif (e4.Due != (az (e4.Since+e39.Within))) then (some (.inr true)) else ((qc e4.Due).bind fun r41=>b7 (ρ:=Bool) (bif (!r41) then (some (.inr true)) else ((dY e4.Status 1 4).bind fun r43=>some (.inr (!r43)))) fun u42:Bool=>some (.inr u42))) fun u40:Bool=>some (.inr u40))) fun u38:Bool=>some (.inr u38))) fun u36:Bool=>some (.inr u36))) fun u6:Bool=>bif u6 then (some false) else (bd (ρ:=Bool) (bif (decide (k_3>0)) then ((aP s_2.Duties (az (k_3 - 1))).bind fun e11=>cU (bif (decide (e11.Since>e4.Since)) then true else (cU (bif (e4.Status==1) then (cU (bif (decide (e4.Due<s_2.Day)) then true else (cU (bif s_2.Over then true else (cU (bif (e4.Status==3) then (cU (bif (decide (e4.Due≥s_2.Day)) then true else (cU (bif (e4.Status==4) then (!s_2.Over) else false) fun u18:Bool=>u18)) fun u17:Bool=>u17) else (cU (bif (e4.Status==4) then (!s_2.Over) else false) fun u19:Bool=>u19)) fun u16:Bool=>u16)) fun u15:Bool=>u15)) fun u14:Bool=>u14) else (cU (bif (e4.Status==3) then (cU (bif (decide (e4.Due≥s_2.Day)) then true else (cU (bif (e4.Status==4) then (!s_2.Over) else false) fun u22:Bool=>u22)) fun u21:Bool=>u21) else (cU (bif (e4.Status==4) then (!s_2.Over) else false) fun u23:Bool=>u23)) fun u20:Bool=>u20)) fun u13:Bool=>u13)) fun u12:Bool=>some (.inr u12)) else (cU (bif (e4.Status==1) then (cU (bif (decide (e4.Due<s_2.Day)) then true else (cU (bif s_2.Over then true else (cU (bif (e4.Status==3) then (cU (bif (decide (e4.Due≥s_2.Day)) then true else (cU (bif (e4.Status==4) then (!s_2.Over) else false) fun u29:Bool=>u29)) fun u28:Bool=>u28) else (cU (bif (e4.Status==4) then (!s_2.Over) else false) fun u30:Bool=>u30)) fun u27:Bool=>u27)) fun u26:Bool=>u26)) fun u25:Bool=>u25) else (cU (bif (e4.Status==3) then (cU (bif (decide (e4.Due≥s_2.Day)) then true else (cU (bif (e4.Status==4) then (!s_2.Over) else false) fun u33:Bool=>u33)) fun u32:Bool=>u32) else (cU (bif (e4.Status==4) then (!s_2.Over) else false) fun u34:Bool=>u34)) fun u31:Bool=>u31)) fun u24:Bool=>some (.inr u24))) fun u7:Bool=>bif u7 then (some false) else ((AI c_1 e4.Clause).bind fun r8=>bd (ρ:=Bool) (bif r8 then (some (.inr true)) else ((AP s_2 e4.Clause).bind fun r10=>some (.inr (r10==1)))) fun u9:Bool=>some u9))
def Ao (x_1:Int):Option Bool:=
 (dY x_1 (-1000000000) 1000000000).bind fun r2=>some r2
def kt (ar:List Int)(self:(Int×Int)→Option (Int⊕Int))(x2:Int×Int):Option (Int⊕Int):=
 bif (decide (x2.2<(len ar))) then ((aP ar x2.2).bind fun e3=>self ((az (x2.1+e3)),(az (x2.2+1)))) else (some (.inr x2.1))
def jR (ar:List Int): (Int×Int)→Option (Int⊕Int):=aN (kt ar)
theorem xR (ar:List Int): ∀a,Fin1 fun f=>kt ar f a:=by
 unfold kt
 repeat first|intro _|exact be|exact bF|apply bM|apply bw|apply bx|apply bD|apply bN
theorem DD (ar:List Int)(x:Int×Int):jR ar x=kt ar (jR ar) x:=bT (xR ar) x
def tF (ar:List Int):Option Int:=
 bd (ρ:=Int) (jR ar (0,0)) fun u4:Int=>some u4
def my (c_1:Contract)(s_2:State)(r5:(List aa))(self:Int→Option (Bool⊕Unit))(x6:Int):Option (Bool⊕Unit):=
 bif (decide (x6<(len s_2.Facts))) then ((aP s_2.Facts x6).bind fun e7=>(pf r5 e7).bind fun r8=>bif (!r8) then (some (.inl false)) else (self (az (x6+1)))) else (some (.inr ()))
def sH (c_1:Contract)(s_2:State)(r5:(List aa)):Int→Option (Bool⊕Unit):=aN (my c_1 s_2 r5)
theorem yh (c_1:Contract)(s_2:State)(r5:(List aa)):∀a,Fin1 fun f=>my c_1 s_2 r5 f a:=by
 unfold my
 repeat first|intro _|exact be|exact bF|apply bM|apply bw|apply bx|apply bD|apply bN
theorem NK (c_1:Contract)(s_2:State)(r5:(List aa))(x:Int):sH c_1 s_2 r5 x=my c_1 s_2 r5 (sH c_1 s_2 r5) x:=bT (yh c_1 s_2 r5) x
def kE (c_1:Contract)(s_2:State)(self:Int→Option (Bool⊕Unit))(x10:Int):Option (Bool⊕Unit):=
 bif (decide (x10<(len s_2.Duties))) then ((AR c_1 s_2 x10).bind fun r11=>bif (!r11) then (some (.inl false)) else (self (az (x10+1)))) else (some (.inr ()))
def mz (c_1:Contract)(s_2:State): Int→Option (Bool⊕Unit):=aN (kE c_1 s_2)
theorem yi (c_1:Contract)(s_2:State): ∀a,Fin1 fun f=>kE c_1 s_2 f a:=by
 unfold kE
 repeat first|intro _|exact be|exact bF|apply bM|apply bw|apply bx|apply bD|apply bN
theorem Ex (c_1:Contract)(s_2:State)(x:Int):mz c_1 s_2 x=kE c_1 s_2 (mz c_1 s_2) x:=bT (yi c_1 s_2) x
def mA (c_1:Contract)(s_2:State)(self:Int→Option (Bool⊕Unit))(x13:Int):Option (Bool⊕Unit):=
 bif (decide (x13<(len s_2.Balances))) then ((aP s_2.Balances x13).bind fun e14=>(Ao e14).bind fun r15=>bif (!r15) then (some (.inl false)) else (self (az (x13+1)))) else (some (.inr ()))
def sJ (c_1:Contract)(s_2:State): Int→Option (Bool⊕Unit):=aN (mA c_1 s_2)
theorem yj (c_1:Contract)(s_2:State): ∀a,Fin1 fun f=>mA c_1 s_2 f a:=by
 unfold mA
 repeat first|intro _|exact be|exact bF|apply bM|apply bw|apply bx|apply bD|apply bN
theorem NL (c_1:Contract)(s_2:State)(x:Int):sJ c_1 s_2 x=mA c_1 s_2 (sJ c_1 s_2) x:=bT (yj c_1 s_2) x
def tL (c_1:Contract)(s_2:State):Option Bool:=
 (AK c_1).bind fun r3=>bd (ρ:=Bool) (bif (!r3) then (some (.inr true)) else ((qc s_2.Day).bind fun r18=>b7 (ρ:=Bool) (bif (!r18) then (some (.inr true)) else ((Ar s_2.Facts).bind fun r20=>cU (bif (!r20) then true else (cU (bif (decide ((len s_2.Duties)>24)) then true else ((len s_2.Balances) != (len c_1.Parties))) fun u22:Bool=>u22)) fun u21:Bool=>some (.inr u21))) fun u19:Bool=>some (.inr u19))) fun u4:Bool=>bif u4 then (some false) else ((nT c_1).bind fun r5=>bd (ρ:=Bool) (sH c_1 s_2 r5 0) fun u9:Unit=>bd (ρ:=Bool) (mz c_1 s_2 0) fun u12:Unit=>bd (ρ:=Bool) (sJ c_1 s_2 0) fun u16:Unit=>(tF s_2.Balances).bind fun r17=>some (r17==0))
def AN (c_1:Contract)(s_2:State)(aE:Int)(aA:aa):Option Bool:=
 (tL c_1 s_2).bind fun r5=>bd (ρ:=Bool) (bif r5 then (b7 (ρ:=Bool) (bif (!s_2.Over) then ((dY aE 0 (az ((len c_1.Parties) - 1))).bind fun r8=>b7 (ρ:=Bool) (bif r8 then ((pg aA).bind fun r10=>some (.inr r10)) else (some (.inr false))) fun u9:Bool=>some (.inr u9)) else (some (.inr false))) fun u7:Bool=>some (.inr u7)) else (some (.inr false))) fun u6:Bool=>some u6
def sr (cz:(Condition×(List aa)×Int)→Option Bool)(c_1:Condition)(bp:List aa)(b8:Int):Option Bool:=
 bif (c_1.Op==1) then (some true) else (bif (c_1.Op==2) then ((pf bp c_1.Name).bind fun r4=>some r4) else (bif (c_1.Op==3) then (some (decide (b8≥c_1.Day))) else (bif (c_1.Op==4) then ((aP c_1.Parts 0).bind fun e5=>(cz (e5,bp,b8)).bind fun r6=>some (!r6)) else (bif (c_1.Op==5) then ((aP c_1.Parts 0).bind fun e7=>(cz (e7,bp,b8)).bind fun r8=>bd (ρ:=Bool) (bif r8 then ((aP c_1.Parts 1).bind fun e10=>(cz (e10,bp,b8)).bind fun r11=>some (.inr r11)) else (some (.inr false))) fun u9:Bool=>some u9) else ((aP c_1.Parts 0).bind fun e12=>(cz (e12,bp,b8)).bind fun r13=>bd (ρ:=Bool) (bif r13 then (some (.inr true)) else ((aP c_1.Parts 1).bind fun e15=>(cz (e15,bp,b8)).bind fun r16=>some (.inr r16))) fun u14:Bool=>some u14)))))
def kw (cz:(Condition×(List aa)×Int)→Option Bool)(x:Condition×(List aa)×Int):Option Bool:=sr cz x.1 x.2.1 x.2.2
def Gf (c_1:Condition)(bp:List aa)(b8:Int):Option Bool:=aN kw (c_1,bp,b8)
theorem UO:∀x,Fin1 fun cz=>kw cz x:=by
 unfold kw sr
 repeat first|intro _|exact be|exact bF|apply bM|apply bw|apply bx|apply bD|apply bN
theorem Xi (c_1:Condition)(bp:List aa)(b8:Int):Gf c_1 bp b8=sr (aN kw) c_1 bp b8:=bT UO (c_1,bp,b8)
def AY (r_1:l9Run)(i_2:Int):Option Bool:=
 (aP r_1.f_c.Clauses i_2).bind fun e3=>(Gf e3.When r_1.f_s.Facts r_1.f_s.Day).bind fun r4=>some r4
def mB (r_1:l9Run)(cV:Int)(aE:Int)(aA:aa)(self:Int→Option (Int⊕Unit))(x5:Int):Option (Int⊕Unit):=
 bif (decide (x5<(len r_1.f_c.Clauses))) then ((aP r_1.f_c.Clauses x5).bind fun e6=>b7 (ρ:=Int) (bif (e6.Kind==cV) then (b7 (ρ:=Int) (bif (e6.Party==aE) then (b7 (ρ:=Int) (bif (e6.Action==aA) then ((AY r_1 x5).bind fun r10=>some (.inr r10)) else (some (.inr false))) fun u9:Bool=>some (.inr u9)) else (some (.inr false))) fun u8:Bool=>some (.inr u8)) else (some (.inr false))) fun u7:Bool=>bif u7 then (some (.inl x5)) else (self (az (x5+1)))) else (some (.inr ()))
def sL (r_1:l9Run)(cV:Int)(aE:Int)(aA:aa): Int→Option (Int⊕Unit):=aN (mB r_1 cV aE aA)
theorem yk (r_1:l9Run)(cV:Int)(aE:Int)(aA:aa): ∀a,Fin1 fun f=>mB r_1 cV aE aA f a:=by
 unfold mB
 repeat first|intro _|exact be|exact bF|apply bM|apply bw|apply bx|apply bD|apply bN
theorem NM (r_1:l9Run)(cV:Int)(aE:Int)(aA:aa)(x:Int):sL r_1 cV aE aA x=mB r_1 cV aE aA (sL r_1 cV aE aA) x:=bT (yk r_1 cV aE aA) x
def vS (r_1:l9Run)(cV:Int)(aE:Int)(aA:aa):Option Int:=
 bd (ρ:=Int) (sL r_1 cV aE aA 0) fun u11:Unit=>some (-1)
def Gl (r_1:l9Run)(ed:Int)(dN:aa):Option Int:=
 (vS r_1 3 ed dN).bind fun r4=>bif (decide (r4≥0)) then (some (-1)) else ((vS r_1 2 ed dN).bind fun r5=>some r5)
def Am (c_1:Contract)(s_2:State)(aE:Int)(aA:aa):Option (Bool×Bool):=
 (AN c_1 s_2 aE aA).bind fun r5=>bif (!r5) then (some (false,false)) else ((Gl (l9Run.mk c_1 s_2 false) aE aA).bind fun r6=>some ((decide (r6≥0)),true))
def ij (n_1:Int)(nr:Int)(kM:Int):Option Bool:=
 cU (bif (decide (n_1≥nr)) then (decide (n_1≤kM)) else false) fun u4:Bool=>some u4
def Jh (s_1:aa)(c_2:Int):Option Int:=
 (qD s_1 c_2).bind fun r3=>some r3
def Je (s_1:aa)(aX:aa):Option Int:=
 cU (bif ((len aX)==0) then true else (aX==s_1)) fun u3:Bool=>bif u3 then (some 0) else (bif ((len aX)==1) then ((aP aX 0).bind fun c4=>(Jh s_1 (c4.toNat:Int)).bind fun r5=>some r5) else (bif (decide ((len aX)≥(len s_1))) then (some (-1)) else none))
def Gm (s_1:aa)(aX:aa):Option Int:=
 (Je s_1 aX).bind fun r3=>some r3
def qL (s_1:aa)(aX:aa)(self:(aa×Int)→Option (Int⊕Unit))(x5:aa×Int):Option (Int⊕Unit):=
 (Gm x5.1 aX).bind fun r6=>bif (r6==(-1)) then (some (.inl x5.2)) else ((pn x5.1 (az (r6+(len aX))) (len x5.1)).bind fun s7=>self (s7,(az (x5.2+1))))
def MG (s_1:aa)(aX:aa): (aa×Int)→Option (Int⊕Unit):=aN (qL s_1 aX)
theorem Md (s_1:aa)(aX:aa): ∀a,Fin1 fun f=>qL s_1 aX f a:=by
 unfold qL
 repeat first|intro _|exact be|exact bF|apply bM|apply bw|apply bx|apply bD|apply bN
def JX (s_1:aa)(aX:aa):Option Int:=
 bif ((len aX)==0) then none else (bif ((len aX)==1) then ((aP aX 0).bind fun c3=>(wL s_1 (c3.toNat:Int)).bind fun r4=>some r4) else (bd (ρ:=Int) (MG s_1 aX (s_1,0)) fun u8:Unit=>none))
def qM (s_1:aa)(dG:aa)(di:Int)(n_4:Int)(u5:Int)(self:(aa×Int×(List aa))→Option ((List aa)⊕(aa×Int×(List aa))))(x7:aa×Int×(List aa)):Option ((List aa)⊕(aa×Int×(List aa))):=
 bif (decide (x7.2.1<(az ((if (az ((len s_1)+1))<u5 then (az ((len s_1)+1)) else u5) - 1)))) then ((Gm x7.1 dG).bind fun r8=>bif (decide (r8<0)) then (some (.inr (x7.1,x7.2.1,x7.2.2))) else ((pn x7.1 0 (az (r8+di))).bind fun s9=>(aP x7.2.2 x7.2.1).bind fun e10=>(pn x7.1 (az (r8+(len dG))) (len x7.1)).bind fun s11=>self (s11,(az (x7.2.1+1)),(fO x7.2.2 x7.2.1 s9)))) else (some (.inr (x7.1,x7.2.1,x7.2.2)))
def wV (s_1:aa)(dG:aa)(di:Int)(n_4:Int)(u5:Int):(aa×Int×(List aa))→Option ((List aa)⊕(aa×Int×(List aa))):=aN (qM s_1 dG di n_4 u5)
theorem ym (s_1:aa)(dG:aa)(di:Int)(n_4:Int)(u5:Int):∀a,Fin1 fun f=>qM s_1 dG di n_4 u5 f a:=by
 unfold qM
 repeat first|intro _|exact be|exact bF|apply bM|apply bw|apply bx|apply bD|apply bN
def JZ (s_1:aa)(dG:aa)(di:Int)(n_4:Int):Option (List aa):=
 bif (n_4==0) then (some []) else (bif (dG==([]:aa)) then none else (bd (ρ:=(List aa)) (bif (decide (n_4<0)) then ((JX s_1 dG).bind fun r16=>some (.inr (az (r16+1)))) else (some (.inr n_4))) fun u5:Int=>(qY 16 [] (if (az ((len s_1)+1))<u5 then (az ((len s_1)+1)) else u5)).bind fun m6=>bd (ρ:=(List aa)) (wV s_1 dG di n_4 u5 (s_1,0,m6)) fun u12:aa×Int×(List aa)=>(aP u12.2.2 u12.2.1).bind fun e13=>(iO (fO u12.2.2 u12.2.1 u12.1).length 0 (az (u12.2.1+1))).bind fun s14=>(iR (fO u12.2.2 u12.2.1 u12.1) (0+Int.toNat (0)) (Int.toNat (az (u12.2.1+1)) - Int.toNat (0))).bind fun p15=>some p15))
def A4 (s_1:aa)(dG:aa):Option (List aa):=
 (JZ s_1 dG 0 (-1)).bind fun r3=>some r3
def ji (s_1:List aa)(v_2:aa)(self:Int→Option (Int⊕Unit))(x3:Int):Option (Int⊕Unit):=
 bif (decide (x3<(len s_1))) then ((aP s_1 x3).bind fun e4=>bif (v_2==e4) then (some (.inl x3)) else (self (az (x3+1)))) else (some (.inr ()))
def nS (s_1:List aa)(v_2:aa): Int→Option (Int⊕Unit):=aN (ji s_1 v_2)
theorem xQ (s_1:List aa)(v_2:aa): ∀a,Fin1 fun f=>ji s_1 v_2 f a:=by
 unfold ji
 repeat first|intro _|exact be|exact bF|apply bM|apply bw|apply bx|apply bD|apply bN
theorem tE (s_1:List aa)(v_2:aa)(x:Int):nS s_1 v_2 x=ji s_1 v_2 (nS s_1 v_2) x:=bT (xQ s_1 v_2) x
def vu (s_1:List aa)(v_2:aa):Option Int:=
 bd (ρ:=Int) (nS s_1 v_2 0) fun u5:Unit=>some (-1)
def mR (s_1:List aa)(v_2:aa):Option Bool:=
 (vu s_1 v_2).bind fun r3=>some (decide (r3≥0))
def nR (s_1:aa)(self:Int→Option (Bool⊕Unit))(x4:Int):Option (Bool⊕Unit):=
 bif (decide (x4<(len s_1))) then ((aP s_1 x4).bind fun c5=>cU (bif (decide ((c5.toNat:Int)<97)) then (cU (bif (decide ((c5.toNat:Int)<48)) then true else (decide ((c5.toNat:Int)>57))) fun u7:Bool=>u7) else (cU (bif (decide ((c5.toNat:Int)>122)) then (cU (bif (decide ((c5.toNat:Int)<48)) then true else (decide ((c5.toNat:Int)>57))) fun u9:Bool=>u9) else false) fun u8:Bool=>u8)) fun u6:Bool=>bif u6 then (some (.inl false)) else (self (az (x4+1)))) else (some (.inr ()))
def vt (s_1:aa): Int→Option (Bool⊕Unit):=aN (nR s_1)
theorem Dl (s_1:aa): ∀a,Fin1 fun f=>nR s_1 f a:=by
 unfold nR
 repeat first|intro _|exact be|exact bF|apply bM|apply bw|apply bx|apply bD|apply bN
theorem QT (s_1:aa)(x:Int):vt s_1 x=nR s_1 (vt s_1) x:=bT (Dl s_1) x
def se (s_1:aa):Option Bool:=
 (ij (len s_1) 1 8).bind fun r2=>bd (ρ:=Bool) (bif (!r2) then (some (.inr true)) else ((aP s_1 0).bind fun c13=>b7 (ρ:=Bool) (bif (decide ((c13.toNat:Int)<97)) then (some (.inr true)) else ((aP s_1 0).bind fun c15=>some (.inr (decide ((c15.toNat:Int)>122))))) fun u14:Bool=>some (.inr u14))) fun u3:Bool=>bif u3 then (some false) else (bd (ρ:=Bool) (vt s_1 0) fun u10:Unit=>(A4 ([116,114,117,101,32,102,114,111,109,32,110,111,116,32,97,110,100,32,111,114,32,98,111,116,104,32,101,105,116,104,101,114,32,105,116,32,105,110]:aa) ([32]:aa)).bind fun r11=>(mR r11 s_1).bind fun r12=>some (!r12))
def lU (ar:List aa)(self:Int→Option (Bool⊕Unit))(x2:Int):Option (Bool⊕Unit):=
 bif (decide (x2<(len ar))) then ((aP ar x2).bind fun e3=>(se e3).bind fun r4=>b7 (ρ:=Bool) (bif (!r4) then (some (.inr true)) else ((pn ar 0 x2).bind fun s6=>(mR s6 e3).bind fun r7=>some (.inr r7))) fun u5:Bool=>bif u5 then (some (.inl false)) else (self (az (x2+1)))) else (some (.inr ()))
def vV (ar:List aa): Int→Option (Bool⊕Unit):=aN (lU ar)
theorem ES (ar:List aa): ∀a,Fin1 fun f=>lU ar f a:=by
 unfold lU
 repeat first|intro _|exact be|exact bF|apply bM|apply bw|apply bx|apply bD|apply bN
theorem Hf (ar:List aa)(x:Int):vV ar x=lU ar (vV ar) x:=bT (ES ar) x
def J1 (ar:List aa):Option Bool:=
 bd (ρ:=Bool) (vV ar 0) fun u8:Unit=>(ij (len ar) 2 4).bind fun r9=>some r9
def Sg (x_1:Clause)(a_2:aa):Option Bool:=
 some (x_1.Id==a_2)
def mh (s_1:List Clause)(f_2:aa)(self:Int→Option (Int⊕Unit))(x3:Int):Option (Int⊕Unit):=
 bif (decide (x3<(len s_1))) then ((aP s_1 x3).bind fun e4=>(Sg e4 f_2).bind fun r5=>bif r5 then (some (.inl x3)) else (self (az (x3+1)))) else (some (.inr ()))
def sb (s_1:List Clause)(f_2:aa): Int→Option (Int⊕Unit):=aN (mh s_1 f_2)
theorem xK (s_1:List Clause)(f_2:aa): ∀a,Fin1 fun f=>mh s_1 f_2 f a:=by
 unfold mh
 repeat first|intro _|exact be|exact bF|apply bM|apply bw|apply bx|apply bD|apply bN
theorem Ny (s_1:List Clause)(f_2:aa)(x:Int):sb s_1 f_2 x=mh s_1 f_2 (sb s_1 f_2) x:=bT (xK s_1 f_2) x
def F8 (s_1:List Clause)(f_2:aa):Option Int:=
 bd (ρ:=Int) (sb s_1 f_2 0) fun u6:Unit=>some (-1)
def EU (c_1:Contract)(eH:aa):Option Int:=
 (F8 c_1.Clauses eH).bind fun r3=>some r3
def nF (gv:Int):Option Bool:=
 (ij gv 0 36524).bind fun r2=>some r2
def kG (aW:(Condition×Int)→Option Int)(c_1:Condition)(cD:Int)(self:(Int×Int)→Option (Int⊕Int))(x5:Int×Int):Option (Int⊕Int):=
 bif (decide (x5.2<(len c_1.Parts))) then ((aP c_1.Parts x5.2).bind fun e6=>(aW (e6,x5.1)).bind fun r7=>bif (decide (r7<0)) then (some (.inl (-1))) else (self (r7,(az (x5.2+1))))) else (some (.inr x5.1))
def lC (aW:(Condition×Int)→Option Int)(c_1:Condition)(cD:Int): (Int×Int)→Option (Int⊕Int):=aN (kG aW c_1 cD)
theorem EX (aW:(Condition×Int)→Option Int)(c_1:Condition)(cD:Int): ∀a,Fin1 fun f=>kG aW c_1 cD f a:=by
 unfold kG
 repeat first|intro _|exact be|exact bF|apply bM|apply bw|apply bx|apply bD|apply bN
theorem Hg (aW:(Condition×Int)→Option Int)(c_1:Condition)(cD:Int)(x:Int×Int):lC aW c_1 cD x=kG aW c_1 cD (lC aW c_1 cD) x:=bT (EX aW c_1 cD) x
def wX (aW:(Condition×Int)→Option Int)(c_1:Condition)(cD:Int):Option Int:=
 bd (ρ:=Int) (bif (decide ((az (cD+1))>15)) then (some (.inr true)) else ((ij c_1.Op 1 6).bind fun r20=>b7 (ρ:=Int) (bif (!r20) then (some (.inr true)) else ((aP [(-1),0,0,0,1,2,2] c_1.Op).bind fun e22=>some (.inr ((len c_1.Parts) != e22)))) fun u21:Bool=>some (.inr u21))) fun u3:Bool=>bif u3 then (some (-1)) else (bd (ρ:=Int) (bif (!((c_1.Op==2)==(!(c_1.Name==([]:aa))))) then (some (.inr true)) else (b7 (ρ:=Int) (bif (c_1.Op==2) then ((se c_1.Name).bind fun r10=>b7 (ρ:=Int) (bif (!r10) then (some (.inr true)) else (b7 (ρ:=Int) (bif (c_1.Op != 3) then (b7 (ρ:=Int) (bif (c_1.Day != 0) then (some (.inr true)) else ((nF c_1.Day).bind fun r14=>some (.inr (!r14)))) fun u13:Bool=>some (.inr u13)) else ((nF c_1.Day).bind fun r15=>some (.inr (!r15)))) fun u12:Bool=>some (.inr u12))) fun u11:Bool=>some (.inr u11)) else (b7 (ρ:=Int) (bif (c_1.Op != 3) then (b7 (ρ:=Int) (bif (c_1.Day != 0) then (some (.inr true)) else ((nF c_1.Day).bind fun r18=>some (.inr (!r18)))) fun u17:Bool=>some (.inr u17)) else ((nF c_1.Day).bind fun r19=>some (.inr (!r19)))) fun u16:Bool=>some (.inr u16))) fun u9:Bool=>some (.inr u9))) fun u4:Bool=>bif u4 then (some (-1)) else (bd (ρ:=Int) (lC aW c_1 cD ((az (cD+1)),0)) fun u8:Int=>some u8))
def lI (aW:(Condition×Int)→Option Int)(x:Condition×Int):Option Int:=wX aW x.1 x.2
def Sh (c_1:Condition)(cD:Int):Option Int:=aN lI (c_1,cD)
theorem Xt:∀x,Fin1 fun aW=>lI aW x:=by
 unfold lI wX
 repeat first|intro _|exact be|exact bF|exact jW|exact mH|exact iD|exact kK|exact jo|exact jp|apply bM|apply bw|apply bx|apply bD|apply bN|apply qS|unfold lC|unfold kG
theorem aaL (c_1:Condition)(cD:Int):Sh c_1 cD=wX (aN lI) c_1 cD:=bT Xt (c_1,cD)
def Jb (c_1:Condition):Option Bool:=
 (Sh c_1 0).bind fun r2=>some (decide (r2>0))
def J5 (c_1:Contract)(i_2:Int):Option Bool:=
 (aP c_1.Clauses i_2).bind fun e3=>(se e3.Id).bind fun r4=>bd (ρ:=Bool) (bif (!r4) then (some (.inr true)) else ((EU c_1 e3.Id).bind fun r23=>b7 (ρ:=Bool) (bif (r23 != i_2) then (some (.inr true)) else ((se e3.Action).bind fun r25=>b7 (ρ:=Bool) (bif (!r25) then (some (.inr true)) else ((ij e3.Kind 1 4).bind fun r27=>some (.inr (!r27)))) fun u26:Bool=>some (.inr u26))) fun u24:Bool=>some (.inr u24))) fun u5:Bool=>bif u5 then (some false) else ((ij e3.Party 0 (az ((len c_1.Parties) - 1))).bind fun r6=>bd (ρ:=Bool) (bif (!r6) then (some (.inr true)) else ((ij e3.Other 0 (az ((len c_1.Parties) - 1))).bind fun r19=>b7 (ρ:=Bool) (bif (!r19) then (some (.inr true)) else (b7 (ρ:=Bool) (bif (e3.Party==e3.Other) then (some (.inr true)) else ((Jb e3.When).bind fun r22=>some (.inr (!r22)))) fun u21:Bool=>some (.inr u21))) fun u20:Bool=>some (.inr u20))) fun u7:Bool=>bif u7 then (some false) else ((ij e3.Amount 0 1000000).bind fun r8=>bd (ρ:=Bool) (bif (!r8) then (some (.inr true)) else ((ij e3.Within 0 400).bind fun r15=>cU (bif (!r15) then true else (cU (bif (e3.Kind != 1) then (cU (bif (e3.Amount != 0) then true else (e3.Within != 0)) fun u18:Bool=>u18) else false) fun u17:Bool=>u17)) fun u16:Bool=>some (.inr u16))) fun u9:Bool=>bif u9 then (some false) else (bif (e3.Repair==([]:aa)) then (some true) else ((EU c_1 e3.Repair).bind fun r10=>bd (ρ:=Bool) (bif (e3.Kind != 3) then (b7 (ρ:=Bool) (bif (decide (r10≥0)) then (b7 (ρ:=Bool) (bif (r10 != i_2) then ((aP c_1.Clauses r10).bind fun e14=>some (.inr (e14.Kind==1))) else (some (.inr false))) fun u13:Bool=>some (.inr u13)) else (some (.inr false))) fun u12:Bool=>some (.inr u12)) else (some (.inr false))) fun u11:Bool=>some u11))))
def kF (cB:(Condition×(List aa))→Option (List aa))(c_3:Condition)(dA:List aa)(self:(Int×(List aa))→Option ((List aa)⊕(List aa)))(x4:Int×(List aa)):Option ((List aa)⊕(List aa)):=
 bif (decide (x4.1<(len c_3.Parts))) then ((aP c_3.Parts x4.1).bind fun e5=>(cB (e5,x4.2)).bind fun r6=>self ((az (x4.1+1)),r6)) else (some (.inr x4.2))
def mV (cB:(Condition×(List aa))→Option (List aa))(c_3:Condition)(dA:List aa): (Int×(List aa))→Option ((List aa)⊕(List aa)):=aN (kF cB c_3 dA)
theorem EQ (cB:(Condition×(List aa))→Option (List aa))(c_3:Condition)(dA:List aa): ∀a,Fin1 fun f=>kF cB c_3 dA f a:=by
 unfold kF
 repeat first|intro _|exact be|exact bF|apply bM|apply bw|apply bx|apply bD|apply bN
theorem He (cB:(Condition×(List aa))→Option (List aa))(c_3:Condition)(dA:List aa)(x:Int×(List aa)):mV cB c_3 dA x=kF cB c_3 dA (mV cB c_3 dA) x:=bT (EQ cB c_3 dA) x
def wW (cB:(Condition×(List aa))→Option (List aa))(c_3:Condition)(dA:List aa):Option (List aa):=
 bd (ρ:=(List aa)) (bif (c_3.Op==2) then ((iB 16 dA [c_3.Name]).bind fun a8=>some (.inr a8)) else (some (.inr dA))) fun u3:(List aa)=>bd (ρ:=(List aa)) (mV cB c_3 dA (0,u3)) fun u7:(List aa)=>some u7
def mU (cB:(Condition×(List aa))→Option (List aa))(x:Condition×(List aa)):Option (List aa):=wW cB x.1 x.2
def Se (c_3:Condition)(dA:List aa):Option (List aa):=aN mU (c_3,dA)
theorem Xn:∀x,Fin1 fun cB=>mU cB x:=by
 unfold mU wW
 repeat first|intro _|exact be|exact bF|exact jW|exact mH|exact iD|exact kK|exact jo|exact jp|apply bM|apply bw|apply bx|apply bD|apply bN|apply qS|unfold mV|unfold kF
theorem aaK (c_3:Condition)(dA:List aa):Se c_3 dA=wW (aN mU) c_3 dA:=bT Xn (c_3,dA)
def ks (s_2:List aa)(x2:Int)(self:(Int×Int×(List aa))→Option ((List aa)⊕(Int×(List aa))))(x6:Int×Int×(List aa)):Option ((List aa)⊕(Int×(List aa))):=
 bif (decide (x6.2.1<(((Int.toNat (len s_2) - Int.toNat x2):Nat):Int))) then ((ug x6.2.2 (0+Int.toNat x2) (Int.toNat (len s_2) - Int.toNat x2) x6.2.1).bind fun e7=>(ug x6.2.2 (0+Int.toNat x2) (Int.toNat (len s_2) - Int.toNat x2) (az (x6.2.1 - 1))).bind fun e8=>b7 (ρ:=(List aa)) (bif (!(e7==e8)) then ((ug x6.2.2 (0+Int.toNat x2) (Int.toNat (len s_2) - Int.toNat x2) x6.2.1).bind fun e10=>(aP x6.2.2 x6.1).bind fun e11=>some (.inr ((az (x6.1+1)),(fO x6.2.2 x6.1 e10)))) else (some (.inr (x6.1,x6.2.2)))) fun u9:Int×(List aa)=>self (u9.1,(az (x6.2.1+1)),u9.2)) else (some (.inr (x6.1,x6.2.2)))
def jQ (s_2:List aa)(x2:Int):(Int×Int×(List aa))→Option ((List aa)⊕(Int×(List aa))):=aN (ks s_2 x2)
theorem xJ (s_2:List aa)(x2:Int):∀a,Fin1 fun f=>ks s_2 x2 f a:=by
 unfold ks
 repeat first|intro _|exact be|exact bF|apply bM|apply bw|apply bx|apply bD|apply bN
theorem C3 (s_2:List aa)(x2:Int)(x:Int×Int×(List aa)):jQ s_2 x2 x=ks s_2 x2 (jQ s_2 x2) x:=bT (xJ s_2 x2) x
def kr (s_2:List aa)(self:Int→Option ((List aa)⊕(List aa)))(x2:Int):Option ((List aa)⊕(List aa)):=
 bif (decide (x2<(len s_2))) then ((aP s_2 x2).bind fun e3=>(aP s_2 (az (x2 - 1))).bind fun e4=>bif (e3==e4) then ((iO s_2.length x2 (len s_2)).bind fun s5=>b7 (ρ:=(List aa)) (jQ s_2 x2 (x2,1,s_2)) fun u15:Int×(List aa)=>(iO u15.2.length u15.1 (len u15.2)).bind fun s16=>(wc u15.2 (0+Int.toNat u15.1) (Int.toNat (len u15.2) - Int.toNat u15.1) []).bind fun k17=>(iO k17.length 0 u15.1).bind fun s18=>(iR k17 (0+Int.toNat (0)) (Int.toNat u15.1 - Int.toNat (0))).bind fun p19=>some (.inl p19)) else (self (az (x2+1)))) else (some (.inr s_2))
def pS (s_2:List aa): Int→Option ((List aa)⊕(List aa)):=aN (kr s_2)
theorem xI (s_2:List aa): ∀a,Fin1 fun f=>kr s_2 f a:=by
 unfold kr
 repeat first|intro _|exact be|exact bF|apply bM|apply bw|apply bx|apply bD|apply bN
theorem C2 (s_2:List aa)(x:Int):pS s_2 x=kr s_2 (pS s_2) x:=bT (xI s_2) x
def zX (s_2:List aa):Option (List aa):=
 bif (decide ((len s_2)<2)) then (some s_2) else (bd (ρ:=(List aa)) (pS s_2 1) fun u20:(List aa)=>some u20)
def yV (ja:List aa):Option (List aa):=
 (tw ja).bind fun r2=>bif Nat.beq r2.length ja.length then ((zX r2).bind fun r4=>some r4) else none
def lV (c_1:Contract)(self:(Int×(List aa))→Option ((List aa)⊕(List aa)))(x2:Int×(List aa)):Option ((List aa)⊕(List aa)):=
 bif (decide (x2.1<(len c_1.Clauses))) then ((aP c_1.Clauses x2.1).bind fun e3=>(iB 16 x2.2 [e3.Action]).bind fun a4=>(Se e3.When a4).bind fun r5=>self ((az (x2.1+1)),r5)) else (some (.inr x2.2))
def oS (c_1:Contract): (Int×(List aa))→Option ((List aa)⊕(List aa)):=aN (lV c_1)
theorem E1 (c_1:Contract): ∀a,Fin1 fun f=>lV c_1 f a:=by
 unfold lV
 repeat first|intro _|exact be|exact bF|apply bM|apply bw|apply bx|apply bD|apply bN
theorem Hh (c_1:Contract)(x:Int×(List aa)):oS c_1 x=lV c_1 (oS c_1) x:=bT (E1 c_1) x
def sN (c_1:Contract):Option (List aa):=
 bd (ρ:=(List aa)) (oS c_1 (0,[])) fun u6:(List aa)=>(yV u6).bind fun r7=>some r7
def lS (c_1:Contract)(self:Int→Option (Bool⊕Unit))(x4:Int):Option (Bool⊕Unit):=
 bif (decide (x4<(len c_1.Clauses))) then ((J5 c_1 x4).bind fun r5=>bif (!r5) then (some (.inl false)) else (self (az (x4+1)))) else (some (.inr ()))
def mQ (c_1:Contract): Int→Option (Bool⊕Unit):=aN (lS c_1)
theorem Cw (c_1:Contract): ∀a,Fin1 fun f=>lS c_1 f a:=by
 unfold lS
 repeat first|intro _|exact be|exact bF|apply bM|apply bw|apply bx|apply bD|apply bN
theorem G6 (c_1:Contract)(x:Int):mQ c_1 x=lS c_1 (mQ c_1) x:=bT (Cw c_1) x
def Jp (c_1:Contract):Option Bool:=
 (J1 c_1.Parties).bind fun r2=>bd (ρ:=Bool) (bif (!r2) then (some (.inr true)) else ((ij (len c_1.Clauses) 1 12).bind fun r8=>some (.inr (!r8)))) fun u3:Bool=>bif u3 then (some false) else (bd (ρ:=Bool) (mQ c_1 0) fun u6:Unit=>(sN c_1).bind fun r7=>some (decide ((len r7)≤16)))
def lW (bZ:List aa)(self:Int→Option (Bool⊕Unit))(x2:Int):Option (Bool⊕Unit):=
 bif (decide (x2<(len bZ))) then ((aP bZ x2).bind fun e3=>(se e3).bind fun r4=>b7 (ρ:=Bool) (bif (!r4) then (some (.inr true)) else (b7 (ρ:=Bool) (bif (decide (x2>0)) then ((aP bZ (az (x2 - 1))).bind fun e7=>some (.inr (Op.bytesLess e3 e7||e3==e7))) else (some (.inr false))) fun u6:Bool=>some (.inr u6))) fun u5:Bool=>bif u5 then (some (.inl false)) else (self (az (x2+1)))) else (some (.inr ()))
def mX (bZ:List aa): Int→Option (Bool⊕Unit):=aN (lW bZ)
theorem E4 (bZ:List aa): ∀a,Fin1 fun f=>lW bZ f a:=by
 unfold lW
 repeat first|intro _|exact be|exact bF|apply bM|apply bw|apply bx|apply bD|apply bN
theorem Hi (bZ:List aa)(x:Int):mX bZ x=lW bZ (mX bZ) x:=bT (E4 bZ) x
def Kb (bZ:List aa):Option Bool:=
 bd (ρ:=Bool) (mX bZ 0) fun u8:Unit=>some (decide ((len bZ)≤16))
def Kd (f_1:aa)(a_2:List aa):Option Bool:=
 (mR a_2 f_1).bind fun r3=>some (!r3)
def mn (s_1:List aa)(f_2:(List aa))(self:Int→Option (Int⊕Unit))(x3:Int):Option (Int⊕Unit):=
 bif (decide (x3<(len s_1))) then ((aP s_1 x3).bind fun e4=>(Kd e4 f_2).bind fun r5=>bif r5 then (some (.inl x3)) else (self (az (x3+1)))) else (some (.inr ()))
def sj (s_1:List aa)(f_2:(List aa)): Int→Option (Int⊕Unit):=aN (mn s_1 f_2)
theorem xP (s_1:List aa)(f_2:(List aa)): ∀a,Fin1 fun f=>mn s_1 f_2 f a:=by
 unfold mn
 repeat first|intro _|exact be|exact bF|apply bM|apply bw|apply bx|apply bD|apply bN
theorem NE (s_1:List aa)(f_2:(List aa))(x:Int):sj s_1 f_2 x=mn s_1 f_2 (sj s_1 f_2) x:=bT (xP s_1 f_2) x
def Gd (s_1:List aa)(f_2:(List aa)):Option Int:=
 bd (ρ:=Int) (sj s_1 f_2 0) fun u6:Unit=>some (-1)
def F7 (s_1:List aa)(f_2:(List aa)):Option Bool:=
 (Gd s_1 f_2).bind fun r3=>some (decide (r3≥0))
def qF (ar:List Int)(self:(Int×Int)→Option (Int⊕Int))(x2:Int×Int):Option (Int⊕Int):=
 bif (decide (x2.2<(len ar))) then ((aP ar x2.2).bind fun e3=>self ((az (x2.1+e3)),(az (x2.2+1)))) else (some (.inr x2.1))
def F0 (ar:List Int): (Int×Int)→Option (Int⊕Int):=aN (qF ar)
theorem Lw (ar:List Int): ∀a,Fin1 fun f=>qF ar f a:=by
 unfold qF
 repeat first|intro _|exact be|exact bF|apply bM|apply bw|apply bx|apply bD|apply bN
def uX (ar:List Int):Option Int:=
 bd (ρ:=Int) (F0 ar (0,0)) fun u4:Int=>some u4
def J9 (x_1:Clause)(a_2:Contract)(a_3:Int):Option Bool:=
 (aP a_2.Clauses a_3).bind fun e4=>some (x_1.Repair==e4.Id)
def mi (s_1:List Clause)(f_2:Contract×Int)(self:Int→Option (Int⊕Unit))(x3:Int):Option (Int⊕Unit):=
 bif (decide (x3<(len s_1))) then ((aP s_1 x3).bind fun e4=>(J9 e4 f_2.1 f_2.2).bind fun r5=>bif r5 then (some (.inl x3)) else (self (az (x3+1)))) else (some (.inr ()))
def sd (s_1:List Clause)(f_2:Contract×Int): Int→Option (Int⊕Unit):=aN (mi s_1 f_2)
theorem xL (s_1:List Clause)(f_2:Contract×Int): ∀a,Fin1 fun f=>mi s_1 f_2 f a:=by
 unfold mi
 repeat first|intro _|exact be|exact bF|apply bM|apply bw|apply bx|apply bD|apply bN
theorem Nz (s_1:List Clause)(f_2:Contract×Int)(x:Int):sd s_1 f_2 x=mi s_1 f_2 (sd s_1 f_2) x:=bT (xL s_1 f_2) x
def F9 (s_1:List Clause)(f_2:Contract×Int):Option Int:=
 bd (ρ:=Int) (sd s_1 f_2 0) fun u6:Unit=>some (-1)
def F4 (s_1:List Clause)(f_2:Contract×Int):Option Bool:=
 (F9 s_1 (f_2.1,f_2.2)).bind fun r3=>some (decide (r3≥0))
def J8 (c_1:Contract)(i_2:Int):Option Bool:=
 (F4 c_1.Clauses (c_1,i_2)).bind fun r3=>some r3
def MI (jd:Duty)(a_2:Duty):Option Bool:=
 some (jd.Clause==a_2.Clause)
def ml (s_1:List Duty)(f_2:Duty)(self:Int→Option (Int⊕Unit))(x3:Int):Option (Int⊕Unit):=
 bif (decide (x3<(len s_1))) then ((aP s_1 x3).bind fun e4=>(MI e4 f_2).bind fun r5=>bif r5 then (some (.inl x3)) else (self (az (x3+1)))) else (some (.inr ()))
def sh (s_1:List Duty)(f_2:Duty): Int→Option (Int⊕Unit):=aN (ml s_1 f_2)
theorem xN (s_1:List Duty)(f_2:Duty): ∀a,Fin1 fun f=>ml s_1 f_2 f a:=by
 unfold ml
 repeat first|intro _|exact be|exact bF|apply bM|apply bw|apply bx|apply bD|apply bN
theorem NC (s_1:List Duty)(f_2:Duty)(x:Int):sh s_1 f_2 x=ml s_1 f_2 (sh s_1 f_2) x:=bT (xN s_1 f_2) x
def Gb (s_1:List Duty)(f_2:Duty):Option Int:=
 bd (ρ:=Int) (sh s_1 f_2 0) fun u6:Unit=>some (-1)
def F5 (s_1:List Duty)(f_2:Duty):Option Bool:=
 (Gb s_1 f_2).bind fun r3=>some (decide (r3≥0))
def Ka (c_1:Contract)(s_2:State)(i_3:Int):Option Bool:=
 (aP s_2.Duties i_3).bind fun e4=>(ij e4.Clause 0 (az ((len c_1.Clauses) - 1))).bind fun r5=>bd (ρ:=Bool) (bif (!r5) then (some (.inr true)) else ((aP c_1.Clauses e4.Clause).bind fun e18=>b7 (ρ:=Bool) (bif (e18.Kind != 1) then (some (.inr true)) else ((ij e4.Since 0 s_2.Day).bind fun r20=>some (.inr (!r20)))) fun u19:Bool=>some (.inr u19))) fun u6:Bool=>bif u6 then (some false) else ((aP c_1.Clauses e4.Clause).bind fun e7=>bd (ρ:=Bool) (bif (e4.Due != (az (e4.Since+e7.Within))) then (some (.inr true)) else ((nF e4.Due).bind fun r14=>b7 (ρ:=Bool) (bif (!r14) then (some (.inr true)) else (b7 (ρ:=Bool) (bif (decide (i_3>0)) then ((aP s_2.Duties (az (i_3 - 1))).bind fun e17=>some (.inr (decide (e4.Since<e17.Since)))) else (some (.inr false))) fun u16:Bool=>some (.inr u16))) fun u15:Bool=>some (.inr u15))) fun u8:Bool=>bif u8 then (some false) else ((J8 c_1 e4.Clause).bind fun r9=>bd (ρ:=Bool) (bif (!r9) then ((pn s_2.Duties 0 i_3).bind fun s12=>(F5 s12 e4).bind fun r13=>some (.inr r13)) else (some (.inr false))) fun u10:Bool=>bif u10 then (some false) else (bif (e4.Status==1) then (cU (bif (decide (e4.Due≥s_2.Day)) then (!s_2.Over) else false) fun u11:Bool=>some u11) else (bif (e4.Status==2) then (some true) else (bif (e4.Status==3) then (some (decide (e4.Due<s_2.Day))) else (bif (e4.Status==4) then (some s_2.Over) else (some false)))))))
def MH (x_1:Int):Option Bool:=
 (ij x_1 (-1000000000) 1000000000).bind fun r2=>some r2
def Ke (b_1:Int):Option Bool:=
 (MH b_1).bind fun r2=>some (!r2)
def mm (s_1:List Int)(f_2:Unit)(self:Int→Option (Int⊕Unit))(x3:Int):Option (Int⊕Unit):=
 bif (decide (x3<(len s_1))) then ((aP s_1 x3).bind fun e4=>(Ke e4).bind fun r5=>bif r5 then (some (.inl x3)) else (self (az (x3+1)))) else (some (.inr ()))
def si (s_1:List Int)(f_2:Unit): Int→Option (Int⊕Unit):=aN (mm s_1 f_2)
theorem xO (s_1:List Int)(f_2:Unit): ∀a,Fin1 fun f=>mm s_1 f_2 f a:=by
 unfold mm
 repeat first|intro _|exact be|exact bF|apply bM|apply bw|apply bx|apply bD|apply bN
theorem ND (s_1:List Int)(f_2:Unit)(x:Int):si s_1 f_2 x=mm s_1 f_2 (si s_1 f_2) x:=bT (xO s_1 f_2) x
def Gc (s_1:List Int)(f_2:Unit):Option Int:=
 bd (ρ:=Int) (si s_1 f_2 0) fun u6:Unit=>some (-1)
def F6 (s_1:List Int)(f_2:Unit):Option Bool:=
 (Gc s_1 ()).bind fun r3=>some (decide (r3≥0))
def lX (c_1:Contract)(s_2:State)(self:Int→Option (Bool⊕Unit))(x7:Int):Option (Bool⊕Unit):=
 bif (decide (x7<(len s_2.Duties))) then ((Ka c_1 s_2 x7).bind fun r8=>bif (!r8) then (some (.inl false)) else (self (az (x7+1)))) else (some (.inr ()))
def oT (c_1:Contract)(s_2:State): Int→Option (Bool⊕Unit):=aN (lX c_1 s_2)
theorem E5 (c_1:Contract)(s_2:State): ∀a,Fin1 fun f=>lX c_1 s_2 f a:=by
 unfold lX
 repeat first|intro _|exact be|exact bF|apply bM|apply bw|apply bx|apply bD|apply bN
theorem Hj (c_1:Contract)(s_2:State)(x:Int):oT c_1 s_2 x=lX c_1 s_2 (oT c_1 s_2) x:=bT (E5 c_1 s_2) x
def Kc (c_1:Contract)(s_2:State):Option Bool:=
 (sN c_1).bind fun r3=>(nF s_2.Day).bind fun r4=>bd (ρ:=Bool) (bif (!r4) then (some (.inr true)) else ((Kb s_2.Facts).bind fun r13=>b7 (ρ:=Bool) (bif (!r13) then (some (.inr true)) else ((F7 s_2.Facts r3).bind fun r15=>some (.inr r15))) fun u14:Bool=>some (.inr u14))) fun u5:Bool=>bif u5 then (some false) else (bd (ρ:=Bool) (bif (decide ((len s_2.Duties)>24)) then (some (.inr true)) else (b7 (ρ:=Bool) (bif ((len s_2.Balances) != (len c_1.Parties)) then (some (.inr true)) else ((uX s_2.Balances).bind fun r12=>some (.inr (r12 != 0)))) fun u11:Bool=>some (.inr u11))) fun u6:Bool=>bif u6 then (some false) else (bd (ρ:=Bool) (oT c_1 s_2 0) fun u9:Unit=>(F6 s_2.Balances ()).bind fun r10=>some (!r10)))
def Hc (c_1:Contract)(s_2:State):Option Bool:=
 (Jp c_1).bind fun r3=>bd (ρ:=Bool) (bif r3 then ((Kc c_1 s_2).bind fun r5=>some (.inr r5)) else (some (.inr false))) fun u4:Bool=>some u4
def J2 (c_1:Contract)(s_2:State)(aE:Int)(aA:aa):Option Bool:=
 (Hc c_1 s_2).bind fun r5=>bd (ρ:=Bool) (bif r5 then (b7 (ρ:=Bool) (bif (!s_2.Over) then ((ij aE 0 (az ((len c_1.Parties) - 1))).bind fun r8=>b7 (ρ:=Bool) (bif r8 then ((se aA).bind fun r10=>some (.inr r10)) else (some (.inr false))) fun u9:Bool=>some (.inr u9)) else (some (.inr false))) fun u7:Bool=>some (.inr u7)) else (some (.inr false))) fun u6:Bool=>some u6
def zV (s_1:List aa):Option (List aa):=
 wu s_1 (some []) ((iB 16 ([]:List aa) s_1).bind fun a2=>some a2)
def zR (s_1:List Duty):Option (List Duty):=
 wu s_1 (some []) ((iB 32 ([]:List Duty) s_1).bind fun a2=>some a2)
def zT (s_1:List Int):Option (List Int):=
 wu s_1 (some []) ((iB 8 ([]:List Int) s_1).bind fun a2=>some a2)
def yT (s_1:State):Option State:=
 (zV s_1.Facts).bind fun r2=>(zR s_1.Duties).bind fun r3=>(zT s_1.Balances).bind fun r4=>some (State.mk s_1.Day r2 r3 r4 s_1.Over)
def Kf (c_1:Contract)(s_2:State):Option machine:=
 (yT s_2).bind fun r3=>(sN c_1).bind fun r4=>some (machine.mk c_1 r3 r4 [] false)
def wY (cW:(Condition×(List aa)×Int)→Option Bool)(c_1:Condition)(bp:List aa)(b8:Int):Option Bool:=
 bif (c_1.Op==2) then ((mR bp c_1.Name).bind fun r4=>some r4) else (bif (c_1.Op==3) then (some (decide (b8≥c_1.Day))) else (bif (c_1.Op==4) then ((aP c_1.Parts 0).bind fun e5=>(cW (e5,bp,b8)).bind fun r6=>some (!r6)) else (bif (c_1.Op==5) then ((aP c_1.Parts 0).bind fun e7=>(cW (e7,bp,b8)).bind fun r8=>bd (ρ:=Bool) (bif r8 then ((aP c_1.Parts 1).bind fun e10=>(cW (e10,bp,b8)).bind fun r11=>some (.inr r11)) else (some (.inr false))) fun u9:Bool=>some u9) else (bif (c_1.Op==6) then ((aP c_1.Parts 0).bind fun e12=>(cW (e12,bp,b8)).bind fun r13=>bd (ρ:=Bool) (bif r13 then (some (.inr true)) else ((aP c_1.Parts 1).bind fun e15=>(cW (e15,bp,b8)).bind fun r16=>some (.inr r16))) fun u14:Bool=>some u14) else (some true)))))
def mW (cW:(Condition×(List aa)×Int)→Option Bool)(x:Condition×(List aa)×Int):Option Bool:=wY cW x.1 x.2.1 x.2.2
def J4 (c_1:Condition)(bp:List aa)(b8:Int):Option Bool:=aN mW (c_1,bp,b8)
theorem Xv:∀x,Fin1 fun cW=>mW cW x:=by
 unfold mW wY
 repeat first|intro _|exact be|exact bF|apply bM|apply bw|apply bx|apply bD|apply bN
theorem aaM (c_1:Condition)(bp:List aa)(b8:Int):J4 c_1 bp b8=wY (aN mW) c_1 bp b8:=bT Xv (c_1,bp,b8)
def FZ (m_1:machine)(x_2:Clause):Option Bool:=
 (J4 x_2.When m_1.f_s.Facts m_1.f_s.Day).bind fun r3=>some r3
def yP (x_1:Clause)(a_2:Int)(a_3:Int)(a_4:aa)(a_5:machine):Option Bool:=
 bd (ρ:=Bool) (bif (x_1.Kind==a_2) then (b7 (ρ:=Bool) (bif (x_1.Party==a_3) then (b7 (ρ:=Bool) (bif (x_1.Action==a_4) then ((FZ a_5 x_1).bind fun r9=>some (.inr r9)) else (some (.inr false))) fun u8:Bool=>some (.inr u8)) else (some (.inr false))) fun u7:Bool=>some (.inr u7)) else (some (.inr false))) fun u6:Bool=>some u6
def mj (s_1:List Clause)(f_2:Int×Int×aa×machine)(self:Int→Option (Int⊕Unit))(x3:Int):Option (Int⊕Unit):=
 bif (decide (x3<(len s_1))) then ((aP s_1 x3).bind fun e4=>(yP e4 f_2.1 f_2.2.1 f_2.2.2.1 f_2.2.2.2).bind fun r5=>bif r5 then (some (.inl x3)) else (self (az (x3+1)))) else (some (.inr ()))
def sf (s_1:List Clause)(f_2:Int×Int×aa×machine): Int→Option (Int⊕Unit):=aN (mj s_1 f_2)
theorem xM (s_1:List Clause)(f_2:Int×Int×aa×machine): ∀a,Fin1 fun f=>mj s_1 f_2 f a:=by
 unfold mj
 repeat first|intro _|exact be|exact bF|apply bM|apply bw|apply bx|apply bD|apply bN
theorem NB (s_1:List Clause)(f_2:Int×Int×aa×machine)(x:Int):sf s_1 f_2 x=mj s_1 f_2 (sf s_1 f_2) x:=bT (xM s_1 f_2) x
def Ga (s_1:List Clause)(f_2:Int×Int×aa×machine):Option Int:=
 bd (ρ:=Int) (sf s_1 f_2 0) fun u6:Unit=>some (-1)
def Hk (m_1:machine)(cV:Int)(aE:Int)(aA:aa):Option Int:=
 (Ga m_1.f_c.Clauses (cV,aE,aA,m_1)).bind fun r5=>some r5
def FY (m_1:machine)(ed:Int)(dN:aa):Option Int:=
 (Hk m_1 3 ed dN).bind fun r4=>bif (decide (r4≥0)) then (some (-1)) else ((Hk m_1 2 ed dN).bind fun r5=>some r5)
def Ja (c_1:Contract)(s_2:State)(aE:Int)(aA:aa):Option (Bool×Bool):=
 (J2 c_1 s_2 aE aA).bind fun r5=>bif (!r5) then (some (false,false)) else ((Kf c_1 s_2).bind fun r6=>(FY r6 aE aA).bind fun r7=>some ((decide (r7≥0)),true))
def ma (a_1:List aa)(b_2:List aa)(self:Int→Option (Bool⊕Unit))(x3:Int):Option (Bool⊕Unit):=
 bif (decide (x3<(len a_1))) then ((aP a_1 x3).bind fun e4=>(aP b_2 x3).bind fun e5=>bif (!(e4==e5)) then (some (.inl false)) else (self (az (x3+1)))) else (some (.inr ()))
def rR (a_1:List aa)(b_2:List aa): Int→Option (Bool⊕Unit):=aN (ma a_1 b_2)
theorem xz (a_1:List aa)(b_2:List aa): ∀a,Fin1 fun f=>ma a_1 b_2 f a:=by
 unfold ma
 repeat first|intro _|exact be|exact bF|apply bM|apply bw|apply bx|apply bD|apply bN
theorem No (a_1:List aa)(b_2:List aa)(x:Int):rR a_1 b_2 x=ma a_1 b_2 (rR a_1 b_2) x:=bT (xz a_1 b_2) x
def vd (a_1:List aa)(b_2:List aa):Option Bool:=
 bif ((len a_1) != (len b_2)) then (some false) else (bd (ρ:=Bool) (rR a_1 b_2 0) fun u6:Unit=>some true)
def kn (bf:(Condition×Condition)→Option Bool)(a_1:List Condition)(b_2:List Condition)(self:Int→Option (Bool⊕Unit))(x3:Int):Option (Bool⊕Unit):=
 bif (decide (x3<(len a_1))) then ((aP a_1 x3).bind fun e4=>(aP b_2 x3).bind fun e5=>(bf (e4,e5)).bind fun r6=>bif (!r6) then (some (.inl false)) else (self (az (x3+1)))) else (some (.inr ()))
def pP (bf:(Condition×Condition)→Option Bool)(a_1:List Condition)(b_2:List Condition): Int→Option (Bool⊕Unit):=aN (kn bf a_1 b_2)
theorem xu (bf:(Condition×Condition)→Option Bool)(a_1:List Condition)(b_2:List Condition): ∀a,Fin1 fun f=>kn bf a_1 b_2 f a:=by
 unfold kn
 repeat first|intro _|exact be|exact bF|apply bM|apply bw|apply bx|apply bD|apply bN
theorem Nl (bf:(Condition×Condition)→Option Bool)(a_1:List Condition)(b_2:List Condition)(x:Int):pP bf a_1 b_2 x=kn bf a_1 b_2 (pP bf a_1 b_2) x:=bT (xu bf a_1 b_2) x
def vb (bf:(Condition×Condition)→Option Bool)(a_1:List Condition)(b_2:List Condition):Option Bool:=
 bif ((len a_1) != (len b_2)) then (some false) else (bd (ρ:=Bool) (pP bf a_1 b_2 0) fun u7:Unit=>some true)
def rN (bf:(Condition×Condition)→Option Bool)(a_1:Condition)(b_2:Condition):Option Bool:=
 bif (a_1.Op != b_2.Op) then (some false) else (bif (!(a_1.Name==b_2.Name)) then (some false) else (bif (a_1.Day != b_2.Day) then (some false) else ((vb bf a_1.Parts b_2.Parts).bind fun r3=>bif (!r3) then (some false) else (some true))))
def oJ (bf:(Condition×Condition)→Option Bool)(x:Condition×Condition):Option Bool:=rN bf x.1 x.2
def zd (a_1:Condition)(b_2:Condition):Option Bool:=aN oJ (a_1,b_2)
theorem TN:∀x,Fin1 fun bf=>oJ bf x:=by
 unfold oJ rN
 repeat first|intro _|exact be|exact bF|exact jW|exact mH|exact iD|exact kK|exact jo|exact jp|apply bM|apply bw|apply bx|apply bD|apply bN|apply qS|unfold vb|unfold pP|unfold kn
theorem Xc (a_1:Condition)(b_2:Condition):zd a_1 b_2=rN (aN oJ) a_1 b_2:=bT TN (a_1,b_2)
def uY (a_1:Clause)(b_2:Clause):Option Bool:=
 bif (!(a_1.Id==b_2.Id)) then (some false) else (bif (a_1.Kind != b_2.Kind) then (some false) else (bif (a_1.Party != b_2.Party) then (some false) else (bif (!(a_1.Action==b_2.Action)) then (some false) else (bif (a_1.Other != b_2.Other) then (some false) else (bif (a_1.Amount != b_2.Amount) then (some false) else ((zd a_1.When b_2.When).bind fun r3=>bif (!r3) then (some false) else (bif (a_1.Within != b_2.Within) then (some false) else (bif (!(a_1.Repair==b_2.Repair)) then (some false) else (some true)))))))))
def l7 (a_1:List Clause)(b_2:List Clause)(self:Int→Option (Bool⊕Unit))(x3:Int):Option (Bool⊕Unit):=
 bif (decide (x3<(len a_1))) then ((aP a_1 x3).bind fun e4=>(aP b_2 x3).bind fun e5=>(uY e4 e5).bind fun r6=>bif (!r6) then (some (.inl false)) else (self (az (x3+1)))) else (some (.inr ()))
def rM (a_1:List Clause)(b_2:List Clause): Int→Option (Bool⊕Unit):=aN (l7 a_1 b_2)
theorem xt (a_1:List Clause)(b_2:List Clause): ∀a,Fin1 fun f=>l7 a_1 b_2 f a:=by
 unfold l7
 repeat first|intro _|exact be|exact bF|apply bM|apply bw|apply bx|apply bD|apply bN
theorem Nk (a_1:List Clause)(b_2:List Clause)(x:Int):rM a_1 b_2 x=l7 a_1 b_2 (rM a_1 b_2) x:=bT (xt a_1 b_2) x
def zb (a_1:List Clause)(b_2:List Clause):Option Bool:=
 bif ((len a_1) != (len b_2)) then (some false) else (bd (ρ:=Bool) (rM a_1 b_2 0) fun u7:Unit=>some true)
def zg (a_1:Contract)(b_2:Contract):Option Bool:=
 (vd a_1.Parties b_2.Parties).bind fun r3=>bif (!r3) then (some false) else ((zb a_1.Clauses b_2.Clauses).bind fun r4=>bif (!r4) then (some false) else (some true))
def vc (a_1:Duty)(b_2:Duty):Option Bool:=
 bif (a_1.Clause != b_2.Clause) then (some false) else (bif (a_1.Since != b_2.Since) then (some false) else (bif (a_1.Due != b_2.Due) then (some false) else (bif (a_1.Status != b_2.Status) then (some false) else (some true))))
def l8 (a_1:List Duty)(b_2:List Duty)(self:Int→Option (Bool⊕Unit))(x3:Int):Option (Bool⊕Unit):=
 bif (decide (x3<(len a_1))) then ((aP a_1 x3).bind fun e4=>(aP b_2 x3).bind fun e5=>(vc e4 e5).bind fun r6=>bif (!r6) then (some (.inl false)) else (self (az (x3+1)))) else (some (.inr ()))
def rO (a_1:List Duty)(b_2:List Duty): Int→Option (Bool⊕Unit):=aN (l8 a_1 b_2)
theorem xw (a_1:List Duty)(b_2:List Duty): ∀a,Fin1 fun f=>l8 a_1 b_2 f a:=by
 unfold l8
 repeat first|intro _|exact be|exact bF|apply bM|apply bw|apply bx|apply bD|apply bN
theorem Nm (a_1:List Duty)(b_2:List Duty)(x:Int):rO a_1 b_2 x=l8 a_1 b_2 (rO a_1 b_2) x:=bT (xw a_1 b_2) x
def zj (a_1:List Duty)(b_2:List Duty):Option Bool:=
 bif ((len a_1) != (len b_2)) then (some false) else (bd (ρ:=Bool) (rO a_1 b_2 0) fun u7:Unit=>some true)
def l9 (a_1:List Int)(b_2:List Int)(self:Int→Option (Bool⊕Unit))(x3:Int):Option (Bool⊕Unit):=
 bif (decide (x3<(len a_1))) then ((aP a_1 x3).bind fun e4=>(aP b_2 x3).bind fun e5=>bif (e4 != e5) then (some (.inl false)) else (self (az (x3+1)))) else (some (.inr ()))
def rQ (a_1:List Int)(b_2:List Int): Int→Option (Bool⊕Unit):=aN (l9 a_1 b_2)
theorem xy (a_1:List Int)(b_2:List Int): ∀a,Fin1 fun f=>l9 a_1 b_2 f a:=by
 unfold l9
 repeat first|intro _|exact be|exact bF|apply bM|apply bw|apply bx|apply bD|apply bN
theorem Nn (a_1:List Int)(b_2:List Int)(x:Int):rQ a_1 b_2 x=l9 a_1 b_2 (rQ a_1 b_2) x:=bT (xy a_1 b_2) x
def zl (a_1:List Int)(b_2:List Int):Option Bool:=
 bif ((len a_1) != (len b_2)) then (some false) else (bd (ρ:=Bool) (rQ a_1 b_2 0) fun u6:Unit=>some true)
def zn (a_1:State)(b_2:State):Option Bool:=
 bif (a_1.Day != b_2.Day) then (some false) else ((vd a_1.Facts b_2.Facts).bind fun r3=>bif (!r3) then (some false) else ((zj a_1.Duties b_2.Duties).bind fun r4=>bif (!r4) then (some false) else ((zl a_1.Balances b_2.Balances).bind fun r5=>bif (!r5) then (some false) else (bif (!(a_1.Over==b_2.Over)) then (some false) else (some true)))))
def eC (jv:Contract)(jw:State)(gj:Int)(eU:aa):Option Bool:=
 bif (decide ((len eU)>1048576)) then (some true) else ((zw jv 1048576).bind fun r5=>bif (decide (r5<0)) then (some true) else ((zC jw r5).bind fun r6=>bif (decide (r6<0)) then (some true) else ((tB jv).bind fun r7=>(tC jw).bind fun r8=>(Am r7 r8 gj eU).bind fun r9=>(tB jv).bind fun r10=>(tC jw).bind fun r11=>(Ja r10 r11 gj eU).bind fun r12=>cU (bif (!(r12.1==r9.1)) then true else (!(r12.2==r9.2))) fun u13:Bool=>bif u13 then (some false) else ((tB jv).bind fun r14=>(zg r10 r14).bind fun r15=>bif (!r15) then (some false) else ((tC jw).bind fun r16=>(zn r11 r16).bind fun r17=>bif (!r17) then (some false) else (some true))))))
end
end Go.Ln
