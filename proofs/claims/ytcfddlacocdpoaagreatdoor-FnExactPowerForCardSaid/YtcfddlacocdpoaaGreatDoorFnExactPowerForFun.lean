/-
  What each function computes.
-/
import Derived.Test.YtcfddlacocdpoaaGreatDoorFnExactPowerForLnC
set_option maxHeartbeats 4000000
set_option linter.unusedVariables false
set_option linter.unusedSimpArgs false
set_option maxRecDepth 100000
namespace Go.Ln
open Go
noncomputable section
structure Condition where
 Op:Int
 Name:aa
 Day:Int
 Parts:List Condition
mutual
def ay:Condition→V
 | ⟨a0,a1,a2,a3⟩=>.agg [I a0,str a1,I a2,.isl false (dj a3)]
def dj:List Condition→List V
 | []=>[]
 | x::xs=>ay x::dj xs
end
theorem nG:∀xs,dj xs=xs.map ay
 | []=>by simp[dj]
 | x::xs=>by simp[dj,nG xs]
def bg (x:Condition):V:=.agg [I x.Op,str x.Name,I x.Day,.isl false (x.Parts.map ay)]
abbrev ah (x:Condition):V:=.agg [I x.Op,str x.Name,I x.Day,.isl false (x.Parts.map ay)]
theorem bA (x:Condition):ay x=bg x:=by cases x;simp only[ay,bg,nG]
mutual
theorem eS:∀(a b:Condition),ay a=ay b→a=b
 | ⟨a0,a1,a2,a3⟩,⟨b0,b1,b2,b3⟩,h=>by
  simp only[ay] at h
  have k0:=V.agg.inj h
  obtain⟨h0,k1⟩:=List.cons.inj k0
  obtain rfl:=bC a0 b0 h0
  obtain⟨h1,k2⟩:=List.cons.inj k1
  obtain rfl:=bc a1 b1 h1
  obtain⟨h2,k3⟩:=List.cons.inj k2
  obtain rfl:=bC a2 b2 h2
  obtain⟨h3,k4⟩:=List.cons.inj k3
  have e3:dj a3=dj b3:=by simpa using h3
  obtain rfl:=nF a3 b3 e3
  rfl
theorem nF:∀(a b:List Condition),dj a=dj b→a=b
 | [],[],_=>rfl
 | [],_::_,h=>by simp[dj] at h
 | _::_,[],h=>by simp[dj] at h
 | x::xs,y::ys,h=>by
  simp only[dj,List.cons.injEq] at h
  rw[eS x y h.1,nF xs ys h.2]
end
theorem cG (a b:Condition)(h:bg a=bg b):a=b:=eS a b (by rw[bA,bA,h])
mutual
def aC:Condition→V
 | ⟨a0,a1,a2,a3⟩=>.agg [I a0,str a1,I a2,.usl 4 (cH a3)]
def cH:List Condition→List V
 | []=>[]
 | x::xs=>aC x::cH xs
end
theorem nJ:∀xs,cH xs=xs.map aC
 | []=>by simp[cH]
 | x::xs=>by simp[cH,nJ xs]
def qM (x:Condition):V:=.agg [I x.Op,str x.Name,I x.Day,.usl 4 (x.Parts.map aC)]
abbrev o9 (x:Condition):V:=.agg [I x.Op,str x.Name,I x.Day,.usl 4 (x.Parts.map aC)]
theorem lw (x:Condition):aC x=qM x:=by cases x;simp only[aC,qM,nJ]
mutual
theorem we:∀(a b:Condition),aC a=aC b→a=b
 | ⟨a0,a1,a2,a3⟩,⟨b0,b1,b2,b3⟩,h=>by
  simp only[aC] at h
  have k0:=V.agg.inj h
  obtain⟨h0,k1⟩:=List.cons.inj k0
  obtain rfl:=bC a0 b0 h0
  obtain⟨h1,k2⟩:=List.cons.inj k1
  obtain rfl:=bc a1 b1 h1
  obtain⟨h2,k3⟩:=List.cons.inj k2
  obtain rfl:=bC a2 b2 h2
  obtain⟨h3,k4⟩:=List.cons.inj k3
  have e3:cH a3=cH b3:=by simpa using h3
  obtain rfl:=nI a3 b3 e3
  rfl
theorem nI:∀(a b:List Condition),cH a=cH b→a=b
 | [],[],_=>rfl
 | [],_::_,h=>by simp[cH] at h
 | _::_,[],h=>by simp[cH] at h
 | x::xs,y::ys,h=>by
  simp only[cH,List.cons.injEq] at h
  rw[we x y h.1,nI xs ys h.2]
end
mutual
theorem oQ:∀x:Condition,d5 (aC x)=ay x
 | ⟨a0,a1,a2,a3⟩=>by simp[aC,ay,d5,fa,str,nH]
theorem nH:∀xs:List Condition,fa (cH xs)=dj xs
 | []=>by simp[cH,dj,fa]
 | x::xs=>by simp[cH,dj,fa,oQ x,nH xs]
end
mutual
theorem uS:∀x:Condition,dt (aC x)=false
 | ⟨a0,a1,a2,a3⟩=>by simp[aC,dt,dZ,str,nc]
theorem nc:∀xs:List Condition,dZ (cH xs)=false
 | []=>by simp[cH,dZ]
 | x::xs=>by simp[cH,dZ,uS x,nc xs]
end
structure Clause where
 Id:aa
 Kind:Int
 Party:Int
 Action:aa
 Other:Int
 Amount:Int
 When:Condition
 Within:Int
 Repair:aa
def aj (x:Clause):V:=.agg [str x.Id,I x.Kind,I x.Party,str x.Action,I x.Other,I x.Amount,I x.When.Op,str x.When.Name,I x.When.Day,.isl false (x.When.Parts.map ay),I x.Within,str x.Repair]
abbrev ao (x:Clause):V:=.agg [str x.Id,I x.Kind,I x.Party,str x.Action,I x.Other,I x.Amount,I x.When.Op,str x.When.Name,I x.When.Day,.isl false (x.When.Parts.map ay),I x.Within,str x.Repair]
theorem cB (a b:Clause)(h:aj a=aj b):a=b:=by
 obtain⟨p0,p1,p2,p3,p4,p5,⟨p6,p7,p8,p9⟩,p10,p11⟩:=a
 obtain⟨q0,q1,q2,q3,q4,q5,⟨q6,q7,q8,q9⟩,q10,q11⟩:=b
 replace h:=V.agg.inj h
 obtain⟨h0,h⟩:=List.cons.inj h
 obtain rfl:=bc p0 q0 h0
 obtain⟨h1,h⟩:=List.cons.inj h
 obtain rfl:=bC p1 q1 h1
 obtain⟨h2,h⟩:=List.cons.inj h
 obtain rfl:=bC p2 q2 h2
 obtain⟨h3,h⟩:=List.cons.inj h
 obtain rfl:=bc p3 q3 h3
 obtain⟨h4,h⟩:=List.cons.inj h
 obtain rfl:=bC p4 q4 h4
 obtain⟨h5,h⟩:=List.cons.inj h
 obtain rfl:=bC p5 q5 h5
 obtain⟨h6,h⟩:=List.cons.inj h
 obtain rfl:=bC p6 q6 h6
 obtain⟨h7,h⟩:=List.cons.inj h
 obtain rfl:=bc p7 q7 h7
 obtain⟨h8,h⟩:=List.cons.inj h
 obtain rfl:=bC p8 q8 h8
 obtain⟨h9,h⟩:=List.cons.inj h
 obtain rfl:=(bu eS) p9 q9 h9
 obtain⟨h10,h⟩:=List.cons.inj h
 obtain rfl:=bC p10 q10 h10
 obtain⟨h11,h⟩:=List.cons.inj h
 obtain rfl:=bc p11 q11 h11
 rfl
def aQ (x:Clause):V:=.agg [str x.Id,I x.Kind,I x.Party,str x.Action,I x.Other,I x.Amount,I x.When.Op,str x.When.Name,I x.When.Day,.usl 4 (x.When.Parts.map aC),I x.Within,str x.Repair]
abbrev tp (x:Clause):V:=.agg [str x.Id,I x.Kind,I x.Party,str x.Action,I x.Other,I x.Amount,I x.When.Op,str x.When.Name,I x.When.Day,.usl 4 (x.When.Parts.map aC),I x.Within,str x.Repair]
theorem fP (x:Clause):d5 (aQ x)=aj x:=WI (fi rfl (fi rfl (fi rfl (fi rfl (fi rfl (fi rfl (fi rfl (fi rfl (fi rfl (fi (ug (ce oQ)) (fi rfl (fi rfl rfl))))))))))))
structure Contract where
 Parties:List aa
 Clauses:List Clause
def aO (x:Contract):V:=.agg [.isl false (x.Parties.map str),.isl false (x.Clauses.map aj)]
abbrev ac (x:Contract):V:=.agg [.isl false (x.Parties.map str),.isl false (x.Clauses.map aj)]
theorem aZ (a b:Contract)(h:aO a=aO b):a=b:=by
 obtain⟨p0,p1⟩:=a
 obtain⟨q0,q1⟩:=b
 replace h:=V.agg.inj h
 obtain⟨h0,h⟩:=List.cons.inj h
 obtain rfl:=(bu bc) p0 q0 h0
 obtain⟨h1,h⟩:=List.cons.inj h
 obtain rfl:=(bu cB) p1 q1 h1
 rfl
structure Duty where
 Clause:Int
 Since:Int
 Due:Int
 Status:Int
def ae (x:Duty):V:=.agg [I x.Clause,I x.Since,I x.Due,I x.Status]
abbrev aaV (x:Duty):V:=.agg [I x.Clause,I x.Since,I x.Due,I x.Status]
theorem sU (x:Duty):(cells (ae x)).length=4∧(cells (ae x)).all eH=true:=⟨rfl,rfl⟩
theorem gx (x:Duty):d5 (ae x)=ae x:=rfl
theorem dH (a b:Duty)(h:ae a=ae b):a=b:=by
 obtain⟨p0,p1,p2,p3⟩:=a
 obtain⟨q0,q1,q2,q3⟩:=b
 replace h:=V.agg.inj h
 obtain⟨h0,h⟩:=List.cons.inj h
 obtain rfl:=bC p0 q0 h0
 obtain⟨h1,h⟩:=List.cons.inj h
 obtain rfl:=bC p1 q1 h1
 obtain⟨h2,h⟩:=List.cons.inj h
 obtain rfl:=bC p2 q2 h2
 obtain⟨h3,h⟩:=List.cons.inj h
 obtain rfl:=bC p3 q3 h3
 rfl
structure State where
 Day:Int
 Facts:List aa
 Duties:List Duty
 Balances:List Int
 Over:Bool
def b7 (x:State):V:=.agg [I x.Day,.isl false (x.Facts.map str),.isl false (x.Duties.map ae),.isl false (x.Balances.map I),B x.Over]
abbrev ak (x:State):V:=.agg [I x.Day,.isl false (x.Facts.map str),.isl false (x.Duties.map ae),.isl false (x.Balances.map I),B x.Over]
theorem cY (a b:State)(h:b7 a=b7 b):a=b:=by
 obtain⟨p0,p1,p2,p3,p4⟩:=a
 obtain⟨q0,q1,q2,q3,q4⟩:=b
 replace h:=V.agg.inj h
 obtain⟨h0,h⟩:=List.cons.inj h
 obtain rfl:=bC p0 q0 h0
 obtain⟨h1,h⟩:=List.cons.inj h
 obtain rfl:=(bu bc) p1 q1 h1
 obtain⟨h2,h⟩:=List.cons.inj h
 obtain rfl:=(bu dH) p2 q2 h2
 obtain⟨h3,h⟩:=List.cons.inj h
 obtain rfl:=(bu bC) p3 q3 h3
 obtain⟨h4,h⟩:=List.cons.inj h
 obtain rfl:=Bx p4 q4 h4
 rfl
structure l9Run where
 f_c:Contract
 f_s:State
 f_bad:Bool
def dm (x:l9Run):V:=.agg [.isl false (x.f_c.Parties.map str),.isl false (x.f_c.Clauses.map aj),I x.f_s.Day,.isl false (x.f_s.Facts.map str),.isl false (x.f_s.Duties.map ae),.isl false (x.f_s.Balances.map I),B x.f_s.Over,B x.f_bad]
abbrev Yk (x:l9Run):V:=.agg [.isl false (x.f_c.Parties.map str),.isl false (x.f_c.Clauses.map aj),I x.f_s.Day,.isl false (x.f_s.Facts.map str),.isl false (x.f_s.Duties.map ae),.isl false (x.f_s.Balances.map I),B x.f_s.Over,B x.f_bad]
theorem sS (a b:l9Run)(h:dm a=dm b):a=b:=by
 obtain⟨⟨p0,p1⟩,⟨p2,p3,p4,p5,p6⟩,p7⟩:=a
 obtain⟨⟨q0,q1⟩,⟨q2,q3,q4,q5,q6⟩,q7⟩:=b
 replace h:=V.agg.inj h
 obtain⟨h0,h⟩:=List.cons.inj h
 obtain rfl:=(bu bc) p0 q0 h0
 obtain⟨h1,h⟩:=List.cons.inj h
 obtain rfl:=(bu cB) p1 q1 h1
 obtain⟨h2,h⟩:=List.cons.inj h
 obtain rfl:=bC p2 q2 h2
 obtain⟨h3,h⟩:=List.cons.inj h
 obtain rfl:=(bu bc) p3 q3 h3
 obtain⟨h4,h⟩:=List.cons.inj h
 obtain rfl:=(bu dH) p4 q4 h4
 obtain⟨h5,h⟩:=List.cons.inj h
 obtain rfl:=(bu bC) p5 q5 h5
 obtain⟨h6,h⟩:=List.cons.inj h
 obtain rfl:=Bx p6 q6 h6
 obtain⟨h7,h⟩:=List.cons.inj h
 obtain rfl:=Bx p7 q7 h7
 rfl
structure Entry where
 Day:Int
 Kind:Int
 Clause:Int
 Party:Int
def ip (x:Entry):V:=.agg [I x.Day,I x.Kind,I x.Clause,I x.Party]
abbrev aaU (x:Entry):V:=.agg [I x.Day,I x.Kind,I x.Clause,I x.Party]
theorem HG (x:Entry):d5 (ip x)=ip x:=rfl
theorem HH (a b:Entry)(h:ip a=ip b):a=b:=by
 obtain⟨p0,p1,p2,p3⟩:=a
 obtain⟨q0,q1,q2,q3⟩:=b
 replace h:=V.agg.inj h
 obtain⟨h0,h⟩:=List.cons.inj h
 obtain rfl:=bC p0 q0 h0
 obtain⟨h1,h⟩:=List.cons.inj h
 obtain rfl:=bC p1 q1 h1
 obtain⟨h2,h⟩:=List.cons.inj h
 obtain rfl:=bC p2 q2 h2
 obtain⟨h3,h⟩:=List.cons.inj h
 obtain rfl:=bC p3 q3 h3
 rfl
structure machine where
 f_c:Contract
 f_s:State
 f_names:List aa
 f_trace:List Entry
 f_failed:Bool
def cQ (x:machine):V:=.agg [.isl false (x.f_c.Parties.map str),.isl false (x.f_c.Clauses.map aj),I x.f_s.Day,.isl false (x.f_s.Facts.map str),.isl false (x.f_s.Duties.map ae),.isl false (x.f_s.Balances.map I),B x.f_s.Over,.isl false (x.f_names.map str),.isl false (x.f_trace.map ip),B x.f_failed]
abbrev WP (x:machine):V:=.agg [.isl false (x.f_c.Parties.map str),.isl false (x.f_c.Clauses.map aj),I x.f_s.Day,.isl false (x.f_s.Facts.map str),.isl false (x.f_s.Duties.map ae),.isl false (x.f_s.Balances.map I),B x.f_s.Over,.isl false (x.f_names.map str),.isl false (x.f_trace.map ip),B x.f_failed]
theorem ju (a b:machine)(h:cQ a=cQ b):a=b:=by
 obtain⟨⟨p0,p1⟩,⟨p2,p3,p4,p5,p6⟩,p7,p8,p9⟩:=a
 obtain⟨⟨q0,q1⟩,⟨q2,q3,q4,q5,q6⟩,q7,q8,q9⟩:=b
 replace h:=V.agg.inj h
 obtain⟨h0,h⟩:=List.cons.inj h
 obtain rfl:=(bu bc) p0 q0 h0
 obtain⟨h1,h⟩:=List.cons.inj h
 obtain rfl:=(bu cB) p1 q1 h1
 obtain⟨h2,h⟩:=List.cons.inj h
 obtain rfl:=bC p2 q2 h2
 obtain⟨h3,h⟩:=List.cons.inj h
 obtain rfl:=(bu bc) p3 q3 h3
 obtain⟨h4,h⟩:=List.cons.inj h
 obtain rfl:=(bu dH) p4 q4 h4
 obtain⟨h5,h⟩:=List.cons.inj h
 obtain rfl:=(bu bC) p5 q5 h5
 obtain⟨h6,h⟩:=List.cons.inj h
 obtain rfl:=Bx p6 q6 h6
 obtain⟨h7,h⟩:=List.cons.inj h
 obtain rfl:=(bu bc) p7 q7 h7
 obtain⟨h8,h⟩:=List.cons.inj h
 obtain rfl:=(bu HH) p8 q8 h8
 obtain⟨h9,h⟩:=List.cons.inj h
 obtain rfl:=Bx p9 q9 h9
 rfl
def Kk (x:machine):V:=.agg [.isl false (x.f_c.Parties.map str),.isl false (x.f_c.Clauses.map aj),I x.f_s.Day,.usl 1 (x.f_s.Facts.map str),.usl 4 (x.f_s.Duties.map ae),.usl 1 (x.f_s.Balances.map I),B x.f_s.Over,.usl 1 (x.f_names.map str),.usl 4 (x.f_trace.map ip),B x.f_failed]
abbrev WQ (x:machine):V:=.agg [.isl false (x.f_c.Parties.map str),.isl false (x.f_c.Clauses.map aj),I x.f_s.Day,.usl 1 (x.f_s.Facts.map str),.usl 4 (x.f_s.Duties.map ae),.usl 1 (x.f_s.Balances.map I),B x.f_s.Over,.usl 1 (x.f_names.map str),.usl 4 (x.f_trace.map ip),B x.f_failed]
mutual
def nO:Condition→Prop
 | ⟨a0,a1,a2,a3⟩=>mW a0∧wu a1∧mW a2∧(a3.length≤maxLen∧Jk a3)
def Jk:List Condition→Prop
 | []=>True
 | x::xs=>nO x∧Jk xs
end
theorem Jl:∀xs,Jk xs↔∀x∈xs,nO x
 | []=>by simp[Jk]
 | x::xs=>by simp[Jk,Jl xs]
theorem Jj (x:Condition):nO x↔mW x.Op∧wu x.Name∧mW x.Day∧qV nO x.Parts:=by cases x;simp only[nO,Jl,qV]
def qX (x:Clause):Prop:=wu x.Id∧mW x.Kind∧mW x.Party∧wu x.Action∧mW x.Other∧mW x.Amount∧nO x.When∧mW x.Within∧wu x.Repair
def T5 (x:Contract):Prop:=(qV wu) x.Parties∧(qV qX) x.Clauses
def GH (x:Duty):Prop:=mW x.Clause∧mW x.Since∧mW x.Due∧mW x.Status
def Bl (x:State):Prop:=mW x.Day∧(qV wu) x.Facts∧(qV GH) x.Duties∧(qV mW) x.Balances∧okB x.Over
def ma (a_1:List aa)(ap:Int)(self:(Int×Int)→Option (Int⊕Int))(x3:Int×Int):Option (Int⊕Int):=
 bif (decide (x3.2<(len a_1))) then ((aP a_1 x3.2).bind fun e4=>bif (decide ((az (x3.1 - (len e4)))<0)) then (some (.inl (-1))) else (self ((az (x3.1 - (len e4))),(az (x3.2+1))))) else (some (.inr x3.1))
def rR (a_1:List aa)(ap:Int): (Int×Int)→Option (Int⊕Int):=aM (ma a_1 ap)
theorem xz (a_1:List aa)(ap:Int): ∀a,Fin1 fun f=>ma a_1 ap f a:=by
 unfold ma
 repeat first|intro _|exact be|exact bF|apply bM|apply bx|apply bz|apply bD|apply bN
theorem Ni (a_1:List aa)(ap:Int)(x:Int×Int):rR a_1 ap x=ma a_1 ap (rR a_1 ap) x:=bT (xz a_1 ap) x
def vh (a_1:List aa)(ap:Int):Option Int:=
 bif (decide ((az (ap - (len a_1)))<0)) then (some (-1)) else (bd (ρ:=Int) (rR a_1 ap ((az (ap - (len a_1))),0)) fun u5:Int=>some u5)
def kj (bh:(Condition×Int)→Option Int)(a_1:List Condition)(ap:Int)(self:(Int×Int)→Option (Int⊕Int))(x3:Int×Int):Option (Int⊕Int):=
 bif (decide (x3.2<(len a_1))) then ((aP a_1 x3.2).bind fun e4=>(bh (e4,x3.1)).bind fun r5=>bif (decide (r5<0)) then (some (.inl (-1))) else (self (r5,(az (x3.2+1))))) else (some (.inr x3.1))
def pK (bh:(Condition×Int)→Option Int)(a_1:List Condition)(ap:Int): (Int×Int)→Option (Int⊕Int):=aM (kj bh a_1 ap)
theorem xy (bh:(Condition×Int)→Option Int)(a_1:List Condition)(ap:Int): ∀a,Fin1 fun f=>kj bh a_1 ap f a:=by
 unfold kj
 repeat first|intro _|exact be|exact bF|apply bM|apply bx|apply bz|apply bD|apply bN
theorem Ng (bh:(Condition×Int)→Option Int)(a_1:List Condition)(ap:Int)(x:Int×Int):pK bh a_1 ap x=kj bh a_1 ap (pK bh a_1 ap) x:=bT (xy bh a_1 ap) x
def vf (bh:(Condition×Int)→Option Int)(a_1:List Condition)(ap:Int):Option Int:=
 bif (decide ((az (ap - (len a_1)))<0)) then (some (-1)) else (bd (ρ:=Int) (pK bh a_1 ap ((az (ap - (len a_1))),0)) fun u6:Int=>some u6)
def rO (bh:(Condition×Int)→Option Int)(a_1:Condition)(ap:Int):Option Int:=
 bif (decide ((az (ap - (len a_1.Name)))<0)) then (some (-1)) else ((vf bh a_1.Parts (az (ap - (len a_1.Name)))).bind fun r3=>bif (decide (r3<0)) then (some (-1)) else (some r3))
def oG (bh:(Condition×Int)→Option Int)(x:Condition×Int):Option Int:=rO bh x.1 x.2
def vc (a_1:Condition)(ap:Int):Option Int:=aM oG (a_1,ap)
theorem TJ:∀x,Fin1 fun bh=>oG bh x:=by
 unfold oG rO
 repeat first|intro _|exact be|exact bF|exact jU|exact mF|exact iz|exact kH|exact jk|exact jl|apply bM|apply bx|apply bz|apply bD|apply bN|apply qN|unfold vf|unfold pK|unfold kj
theorem WU (a_1:Condition)(ap:Int):vc a_1 ap=rO (aM oG) a_1 ap:=bT TJ (a_1,ap)
def tv (a_1:Clause)(ap:Int):Option Int:=
 bif (decide ((az (ap - (len a_1.Id)))<0)) then (some (-1)) else (bif (decide ((az ((az (ap - (len a_1.Id))) - (len a_1.Action)))<0)) then (some (-1)) else ((vc a_1.When (az ((az (ap - (len a_1.Id))) - (len a_1.Action)))).bind fun r3=>bif (decide (r3<0)) then (some (-1)) else (bif (decide ((az (r3 - (len a_1.Repair)))<0)) then (some (-1)) else (some (az (r3 - (len a_1.Repair)))))))
def l9 (a_1:List Clause)(ap:Int)(self:(Int×Int)→Option (Int⊕Int))(x3:Int×Int):Option (Int⊕Int):=
 bif (decide (x3.2<(len a_1))) then ((aP a_1 x3.2).bind fun e4=>(tv e4 x3.1).bind fun r5=>bif (decide (r5<0)) then (some (.inl (-1))) else (self (r5,(az (x3.2+1))))) else (some (.inr x3.1))
def rN (a_1:List Clause)(ap:Int): (Int×Int)→Option (Int⊕Int):=aM (l9 a_1 ap)
theorem xw (a_1:List Clause)(ap:Int): ∀a,Fin1 fun f=>l9 a_1 ap f a:=by
 unfold l9
 repeat first|intro _|exact be|exact bF|apply bM|apply bx|apply bz|apply bD|apply bN
theorem Nf (a_1:List Clause)(ap:Int)(x:Int×Int):rN a_1 ap x=l9 a_1 ap (rN a_1 ap) x:=bT (xw a_1 ap) x
def zm (a_1:List Clause)(ap:Int):Option Int:=
 bif (decide ((az (ap - (len a_1)))<0)) then (some (-1)) else (bd (ρ:=Int) (rN a_1 ap ((az (ap - (len a_1))),0)) fun u6:Int=>some u6)
def zq (a_1:Contract)(ap:Int):Option Int:=
 (vh a_1.Parties ap).bind fun r3=>bif (decide (r3<0)) then (some (-1)) else ((zm a_1.Clauses r3).bind fun r4=>bif (decide (r4<0)) then (some (-1)) else (some r4))
def zt (a_1:List Duty)(ap:Int):Option Int:=
 bif (decide ((az (ap - (len a_1)))<0)) then (some (-1)) else (some (az (ap - (len a_1))))
def zw (a_1:List Int)(ap:Int):Option Int:=
 bif (decide ((az (ap - (len a_1)))<0)) then (some (-1)) else (some (az (ap - (len a_1))))
def zy (a_1:State)(ap:Int):Option Int:=
 (vh a_1.Facts ap).bind fun r3=>bif (decide (r3<0)) then (some (-1)) else ((zt a_1.Duties r3).bind fun r4=>bif (decide (r4<0)) then (some (-1)) else ((zw a_1.Balances r4).bind fun r5=>bif (decide (r5<0)) then (some (-1)) else (some r5)))
def me (a_1:List aa)(self:(Int×(List aa))→Option ((List aa)⊕(List aa)))(x3:Int×(List aa)):Option ((List aa)⊕(List aa)):=
 bif (decide (x3.1<(len a_1))) then ((aP a_1 x3.1).bind fun e4=>(aP x3.2 x3.1).bind fun e5=>self ((az (x3.1+1)),(fI x3.2 x3.1 e4))) else (some (.inr x3.2))
def rX (a_1:List aa): (Int×(List aa))→Option ((List aa)⊕(List aa)):=aM (me a_1)
theorem xE (a_1:List aa): ∀a,Fin1 fun f=>me a_1 f a:=by
 unfold me
 repeat first|intro _|exact be|exact bF|apply bM|apply bx|apply bz|apply bD|apply bN
theorem Nn (a_1:List aa)(x:Int×(List aa)):rX a_1 x=me a_1 (rX a_1) x:=bT (xE a_1) x
def vp (a_1:List aa):Option (List aa):=
 (qT 16 [] (len a_1)).bind fun m2=>bd (ρ:=(List aa)) (rX a_1 (0,m2)) fun u6:(List aa)=>some u6
def km (bi:Condition→Option Condition)(a_1:List Condition)(self:(Int×(List Condition))→Option ((List Condition)⊕(List Condition)))(x3:Int×(List Condition)):Option ((List Condition)⊕(List Condition)):=
 bif (decide (x3.1<(len a_1))) then ((aP a_1 x3.1).bind fun e4=>(bi e4).bind fun r5=>(aP x3.2 x3.1).bind fun e6=>self ((az (x3.1+1)),(fI x3.2 x3.1 r5))) else (some (.inr x3.2))
def pL (bi:Condition→Option Condition)(a_1:List Condition): (Int×(List Condition))→Option ((List Condition)⊕(List Condition)):=aM (km bi a_1)
theorem xB (bi:Condition→Option Condition)(a_1:List Condition): ∀a,Fin1 fun f=>km bi a_1 f a:=by
 unfold km
 repeat first|intro _|exact be|exact bF|apply bM|apply bx|apply bz|apply bD|apply bN
theorem Nk (bi:Condition→Option Condition)(a_1:List Condition)(x:Int×(List Condition)):pL bi a_1 x=km bi a_1 (pL bi a_1) x:=bT (xB bi a_1) x
def vl (bi:Condition→Option Condition)(a_1:List Condition):Option (List Condition):=
 (qT 56 (Condition.mk 0 [] 0 []) (len a_1)).bind fun m2=>bd (ρ:=(List Condition)) (pL bi a_1 (0,m2)) fun u7:(List Condition)=>some u7
def rT (bi:Condition→Option Condition)(a_1:Condition):Option Condition:=
 (vl bi a_1.Parts).bind fun r2=>some (Condition.mk a_1.Op a_1.Name a_1.Day r2)
def oH (bi:Condition→Option Condition)(x:Condition):Option Condition:=rT bi x
def zD (a_1:Condition):Option Condition:=aM oH a_1
theorem TV:∀x,Fin1 fun bi=>oH bi x:=by
 unfold oH rT
 repeat first|intro _|exact be|exact bF|exact jU|exact mF|exact iz|exact kH|exact jk|exact jl|apply bM|apply bx|apply bz|apply bD|apply bN|apply qN|unfold vl|unfold pL|unfold km
theorem WW (a_1:Condition):zD a_1=rT (aM oH) a_1:=bT TV a_1
def vi (a_1:Clause):Option Clause:=
 (zD a_1.When).bind fun r2=>some (Clause.mk a_1.Id a_1.Kind a_1.Party a_1.Action a_1.Other a_1.Amount r2 a_1.Within a_1.Repair)
def mb (a_1:List Clause)(self:(Int×(List Clause))→Option ((List Clause)⊕(List Clause)))(x3:Int×(List Clause)):Option ((List Clause)⊕(List Clause)):=
 bif (decide (x3.1<(len a_1))) then ((aP a_1 x3.1).bind fun e4=>(vi e4).bind fun r5=>(aP x3.2 x3.1).bind fun e6=>self ((az (x3.1+1)),(fI x3.2 x3.1 r5))) else (some (.inr x3.2))
def rS (a_1:List Clause): (Int×(List Clause))→Option ((List Clause)⊕(List Clause)):=aM (mb a_1)
theorem xA (a_1:List Clause): ∀a,Fin1 fun f=>mb a_1 f a:=by
 unfold mb
 repeat first|intro _|exact be|exact bF|apply bM|apply bx|apply bz|apply bD|apply bN
theorem Nj (a_1:List Clause)(x:Int×(List Clause)):rS a_1 x=mb a_1 (rS a_1) x:=bT (xA a_1) x
def zB (a_1:List Clause):Option (List Clause):=
 (qT 144 (Clause.mk [] 0 0 [] 0 0 (Condition.mk 0 [] 0 []) 0 []) (len a_1)).bind fun m2=>bd (ρ:=(List Clause)) (rS a_1 (0,m2)) fun u7:(List Clause)=>some u7
def tx (a_1:Contract):Option Contract:=
 (vp a_1.Parties).bind fun r2=>(zB a_1.Clauses).bind fun r3=>some (Contract.mk r2 r3)
def vn (a_1:Duty):Option Duty:=
 some a_1
def mc (a_1:List Duty)(self:(Int×(List Duty))→Option ((List Duty)⊕(List Duty)))(x3:Int×(List Duty)):Option ((List Duty)⊕(List Duty)):=
 bif (decide (x3.1<(len a_1))) then ((aP a_1 x3.1).bind fun e4=>(vn e4).bind fun r5=>(aP x3.2 x3.1).bind fun e6=>self ((az (x3.1+1)),(fI x3.2 x3.1 r5))) else (some (.inr x3.2))
def rU (a_1:List Duty): (Int×(List Duty))→Option ((List Duty)⊕(List Duty)):=aM (mc a_1)
theorem xC (a_1:List Duty): ∀a,Fin1 fun f=>mc a_1 f a:=by
 unfold mc
 repeat first|intro _|exact be|exact bF|apply bM|apply bx|apply bz|apply bD|apply bN
theorem Nl (a_1:List Duty)(x:Int×(List Duty)):rU a_1 x=mc a_1 (rU a_1) x:=bT (xC a_1) x
def zI (a_1:List Duty):Option (List Duty):=
 (qT 32 (Duty.mk 0 0 0 0) (len a_1)).bind fun m2=>bd (ρ:=(List Duty)) (rU a_1 (0,m2)) fun u7:(List Duty)=>some u7
def md (a_1:List Int)(self:(Int×(List Int))→Option ((List Int)⊕(List Int)))(x3:Int×(List Int)):Option ((List Int)⊕(List Int)):=
 bif (decide (x3.1<(len a_1))) then ((aP a_1 x3.1).bind fun e4=>(aP x3.2 x3.1).bind fun e5=>self ((az (x3.1+1)),(fI x3.2 x3.1 e4))) else (some (.inr x3.2))
def rV (a_1:List Int): (Int×(List Int))→Option ((List Int)⊕(List Int)):=aM (md a_1)
theorem xD (a_1:List Int): ∀a,Fin1 fun f=>md a_1 f a:=by
 unfold md
 repeat first|intro _|exact be|exact bF|apply bM|apply bx|apply bz|apply bD|apply bN
theorem Nm (a_1:List Int)(x:Int×(List Int)):rV a_1 x=md a_1 (rV a_1) x:=bT (xD a_1) x
def zK (a_1:List Int):Option (List Int):=
 (qT 8 0 (len a_1)).bind fun m2=>bd (ρ:=(List Int)) (rV a_1 (0,m2)) fun u6:(List Int)=>some u6
def tz (a_1:State):Option State:=
 (vp a_1.Facts).bind fun r2=>(zI a_1.Duties).bind fun r3=>(zK a_1.Balances).bind fun r4=>some (State.mk a_1.Day r2 r3 r4 a_1.Over)
def dX (x_1:Int)(a_2:Int)(b_3:Int):Option Bool:=
 cT (bif (decide (x_1≥a_2)) then (decide (x_1≤b_3)) else false) fun u4:Bool=>some u4
def vG (b_1:Int):Option Bool:=
 cT (bif (decide (b_1≥97)) then (cT (bif (decide (b_1≤122)) then true else (cT (bif (decide (b_1≥48)) then (decide (b_1≤57)) else false) fun u4:Bool=>u4)) fun u3:Bool=>u3) else (cT (bif (decide (b_1≥48)) then (decide (b_1≤57)) else false) fun u5:Bool=>u5)) fun u2:Bool=>some u2
def mo (s_1:aa)(self:Int→Option (Bool⊕Unit))(x4:Int):Option (Bool⊕Unit):=
 bif (decide (x4<(len s_1))) then ((aP s_1 x4).bind fun c5=>(vG (c5.toNat:Int)).bind fun r6=>bif (!r6) then (some (.inl false)) else (self (az (x4+1)))) else (some (.inr ()))
def sj (s_1:aa): Int→Option (Bool⊕Unit):=aM (mo s_1)
theorem xS (s_1:aa): ∀a,Fin1 fun f=>mo s_1 f a:=by
 unfold mo
 repeat first|intro _|exact be|exact bF|apply bM|apply bx|apply bz|apply bD|apply bN
theorem Nw (s_1:aa)(x:Int):sj s_1 x=mo s_1 (sj s_1) x:=bT (xS s_1) x
def pb (s_1:aa):Option Bool:=
 (dX (len s_1) 1 8).bind fun r2=>bd (ρ:=Bool) (bif (!r2) then (some (.inr true)) else ((aP s_1 0).bind fun c16=>bZ (ρ:=Bool) (bif (decide ((c16.toNat:Int)<97)) then (some (.inr true)) else ((aP s_1 0).bind fun c18=>some (.inr (decide ((c18.toNat:Int)>122))))) fun u17:Bool=>some (.inr u17))) fun u3:Bool=>bif u3 then (some false) else (bd (ρ:=Bool) (sj s_1 0) fun u7:Unit=>cT (bif (s_1==([116,114,117,101]:aa)) then (s_1==([116,114,117,101]:aa)) else (cT (bif (s_1==([102,114,111,109]:aa)) then (s_1==([102,114,111,109]:aa)) else (cT (bif (s_1==([110,111,116]:aa)) then (s_1==([110,111,116]:aa)) else (cT (bif (s_1==([97,110,100]:aa)) then (s_1==([97,110,100]:aa)) else (cT (bif (s_1==([111,114]:aa)) then (s_1==([111,114]:aa)) else (cT (bif (s_1==([98,111,116,104]:aa)) then (s_1==([98,111,116,104]:aa)) else (cT (bif (s_1==([101,105,116,104,101,114]:aa)) then (s_1==([101,105,116,104,101,114]:aa)) else (cT (bif (s_1==([105,116]:aa)) then (s_1==([105,116]:aa)) else (s_1==([105,110]:aa))) fun u15:Bool=>u15)) fun u14:Bool=>u14)) fun u13:Bool=>u13)) fun u12:Bool=>u12)) fun u11:Bool=>u11)) fun u10:Bool=>u10)) fun u9:Bool=>u9)) fun u8:Bool=>bif u8 then (some false) else (some true))
def ks (ar:List aa)(eu:aa)(self:Int→Option (Bool⊕Unit))(x3:Int):Option (Bool⊕Unit):=
 bif (decide (x3<(len ar))) then ((aP ar x3).bind fun e4=>bif (e4==eu) then (some (.inl true)) else (self (az (x3+1)))) else (some (.inr ()))
def pO (ar:List aa)(eu:aa): Int→Option (Bool⊕Unit):=aM (ks ar eu)
theorem xR (ar:List aa)(eu:aa): ∀a,Fin1 fun f=>ks ar eu f a:=by
 unfold ks
 repeat first|intro _|exact be|exact bF|apply bM|apply bx|apply bz|apply bD|apply bN
theorem DM (ar:List aa)(eu:aa)(x:Int):pO ar eu x=ks ar eu (pO ar eu) x:=bT (xR ar eu) x
def pa (ar:List aa)(eu:aa):Option Bool:=
 bd (ρ:=Bool) (pO ar eu 0) fun u5:Unit=>some false
def kz (c_1:Contract)(self:Int→Option (Bool⊕Unit))(x2:Int):Option (Bool⊕Unit):=
 bif (decide (x2<(len c_1.Parties))) then ((aP c_1.Parties x2).bind fun e3=>(pb e3).bind fun r4=>bZ (ρ:=Bool) (bif (!r4) then (some (.inr true)) else ((ph c_1.Parties 0 x2).bind fun s6=>(aP c_1.Parties x2).bind fun e7=>(pa s6 e7).bind fun r8=>some (.inr r8))) fun u5:Bool=>bif u5 then (some (.inl false)) else (self (az (x2+1)))) else (some (.inr ()))
def sB (c_1:Contract): Int→Option (Bool⊕Unit):=aM (kz c_1)
theorem yb (c_1:Contract): ∀a,Fin1 fun f=>kz c_1 f a:=by
 unfold kz
 repeat first|intro _|exact be|exact bF|apply bM|apply bx|apply bz|apply bD|apply bN
theorem Ef (c_1:Contract)(x:Int):sB c_1 x=kz c_1 (sB c_1) x:=bT (yb c_1) x
def vN (c_1:Contract):Option Bool:=
 bd (ρ:=Bool) (sB c_1 0) fun u9:Unit=>(dX (len c_1.Parties) 2 4).bind fun r10=>some r10
def mr (c_1:Contract)(eE:aa)(self:Int→Option (Int⊕Unit))(x3:Int):Option (Int⊕Unit):=
 bif (decide (x3<(len c_1.Clauses))) then ((aP c_1.Clauses x3).bind fun e4=>bif (e4.Id==eE) then (some (.inl x3)) else (self (az (x3+1)))) else (some (.inr ()))
def sx (c_1:Contract)(eE:aa): Int→Option (Int⊕Unit):=aM (mr c_1 eE)
theorem xX (c_1:Contract)(eE:aa): ∀a,Fin1 fun f=>mr c_1 eE f a:=by
 unfold mr
 repeat first|intro _|exact be|exact bF|apply bM|apply bx|apply bz|apply bD|apply bN
theorem Ny (c_1:Contract)(eE:aa)(x:Int):sx c_1 eE x=mr c_1 eE (sx c_1 eE) x:=bT (xX c_1 eE) x
def tF (c_1:Contract)(eE:aa):Option Int:=
 bd (ρ:=Int) (sx c_1 eE 0) fun u5:Unit=>some (-1)
def pW (gm:Int):Option Bool:=
 (dX gm 0 36524).bind fun r2=>some r2
def Ap (c_1:Condition):Option Bool:=
 bif (c_1.Op==1) then (cT (bif ((len c_1.Parts)==0) then (cT (bif (c_1.Name==([]:aa)) then (c_1.Day==0) else false) fun u3:Bool=>u3) else false) fun u2:Bool=>some u2) else (bif (c_1.Op==2) then (bd (ρ:=Bool) (bif ((len c_1.Parts)==0) then ((pb c_1.Name).bind fun r5=>cT (bif r5 then (c_1.Day==0) else false) fun u6:Bool=>some (.inr u6)) else (some (.inr false))) fun u4:Bool=>some u4) else (bif (c_1.Op==3) then (bd (ρ:=Bool) (bif ((len c_1.Parts)==0) then (bZ (ρ:=Bool) (bif (c_1.Name==([]:aa)) then ((pW c_1.Day).bind fun r9=>some (.inr r9)) else (some (.inr false))) fun u8:Bool=>some (.inr u8)) else (some (.inr false))) fun u7:Bool=>some u7) else (bif (c_1.Op==4) then (cT (bif ((len c_1.Parts)==1) then (cT (bif (c_1.Name==([]:aa)) then (c_1.Day==0) else false) fun u11:Bool=>u11) else false) fun u10:Bool=>some u10) else (cT (bif (c_1.Op==5) then (c_1.Op==5) else (c_1.Op==6)) fun u12:Bool=>bif u12 then (cT (bif ((len c_1.Parts)==2) then (cT (bif (c_1.Name==([]:aa)) then (c_1.Day==0) else false) fun u14:Bool=>u14) else false) fun u13:Bool=>some u13) else (some false)))))
def kr (cj:Condition→Option Bool)(c_1:Condition)(self:Int→Option (Bool⊕Unit))(x3:Int):Option (Bool⊕Unit):=
 bif (decide (x3<(len c_1.Parts))) then ((aP c_1.Parts x3).bind fun e4=>(cj e4).bind fun r5=>bif (!r5) then (some (.inl false)) else (self (az (x3+1)))) else (some (.inr ()))
def pN (cj:Condition→Option Bool)(c_1:Condition): Int→Option (Bool⊕Unit):=aM (kr cj c_1)
theorem xQ (cj:Condition→Option Bool)(c_1:Condition): ∀a,Fin1 fun f=>kr cj c_1 f a:=by
 unfold kr
 repeat first|intro _|exact be|exact bF|apply bM|apply bx|apply bz|apply bD|apply bN
theorem Nv (cj:Condition→Option Bool)(c_1:Condition)(x:Int):pN cj c_1 x=kr cj c_1 (pN cj c_1) x:=bT (xQ cj c_1) x
def sh (cj:Condition→Option Bool)(c_1:Condition):Option Bool:=
 (Ap c_1).bind fun r2=>bif (!r2) then (some false) else (bd (ρ:=Bool) (pN cj c_1 0) fun u6:Unit=>some true)
def pY (cj:Condition→Option Bool)(x:Condition):Option Bool:=sh cj x
def F5 (c_1:Condition):Option Bool:=aM pY c_1
theorem Uv:∀x,Fin1 fun cj=>pY cj x:=by
 unfold pY sh
 repeat first|intro _|exact be|exact bF|exact jU|exact mF|exact iz|exact kH|exact jk|exact jl|apply bM|apply bx|apply bz|apply bD|apply bN|apply qN|unfold pN|unfold kr
theorem WY (c_1:Condition):F5 c_1=sh (aM pY) c_1:=bT Uv c_1
def ji (cm:Condition→Option Int)(c_1:Condition)(self:(Int×Int)→Option (Int⊕Int))(x2:Int×Int):Option (Int⊕Int):=
 bif (decide (x2.2<(len c_1.Parts))) then ((aP c_1.Parts x2.2).bind fun e3=>(cm e3).bind fun r4=>self ((az (x2.1+r4)),(az (x2.2+1)))) else (some (.inr x2.1))
def kW (cm:Condition→Option Int)(c_1:Condition): (Int×Int)→Option (Int⊕Int):=aM (ji cm c_1)
theorem xV (cm:Condition→Option Int)(c_1:Condition): ∀a,Fin1 fun f=>ji cm c_1 f a:=by
 unfold ji
 repeat first|intro _|exact be|exact bF|apply bM|apply bx|apply bz|apply bD|apply bN
theorem DY (cm:Condition→Option Int)(c_1:Condition)(x:Int×Int):kW cm c_1 x=ji cm c_1 (kW cm c_1) x:=bT (xV cm c_1) x
def su (cm:Condition→Option Int)(c_1:Condition):Option Int:=
 bd (ρ:=Int) (kW cm c_1 (1,0)) fun u5:Int=>some u5
def kw (cm:Condition→Option Int)(x:Condition):Option Int:=su cm x
def JB (c_1:Condition):Option Int:=aM kw c_1
theorem UG:∀x,Fin1 fun cm=>kw cm x:=by
 unfold kw su
 repeat first|intro _|exact be|exact bF|exact jU|exact mF|exact iz|exact kH|exact jk|exact jl|apply bM|apply bx|apply bz|apply bD|apply bN|apply qN|unfold kW|unfold ji
theorem W2 (c_1:Condition):JB c_1=su (aM kw) c_1:=bT UG c_1
def Au (c_1:Condition):Option Bool:=
 (F5 c_1).bind fun r2=>bd (ρ:=Bool) (bif r2 then ((JB c_1).bind fun r4=>some (.inr (decide (r4≤15)))) else (some (.inr false))) fun u3:Bool=>some u3
def AC (c_1:Contract)(i_2:Int):Option Bool:=
 (aP c_1.Clauses i_2).bind fun e3=>(pb e3.Id).bind fun r4=>bd (ρ:=Bool) (bif (!r4) then (some (.inr true)) else ((pb e3.Action).bind fun r17=>bZ (ρ:=Bool) (bif (!r17) then (some (.inr true)) else ((dX e3.Kind 1 4).bind fun r19=>bZ (ρ:=Bool) (bif (!r19) then (some (.inr true)) else ((dX e3.Party 0 (az ((len c_1.Parties) - 1))).bind fun r21=>bZ (ρ:=Bool) (bif (!r21) then (some (.inr true)) else ((dX e3.Other 0 (az ((len c_1.Parties) - 1))).bind fun r23=>bZ (ρ:=Bool) (bif (!r23) then (some (.inr true)) else (bZ (ρ:=Bool) (bif (e3.Party==e3.Other) then (some (.inr true)) else ((Au e3.When).bind fun r26=>some (.inr (!r26)))) fun u25:Bool=>some (.inr u25))) fun u24:Bool=>some (.inr u24))) fun u22:Bool=>some (.inr u22))) fun u20:Bool=>some (.inr u20))) fun u18:Bool=>some (.inr u18))) fun u5:Bool=>bif u5 then (some false) else ((dX e3.Amount 0 1000000).bind fun r6=>bd (ρ:=Bool) (bif (!r6) then (some (.inr true)) else ((dX e3.Within 0 400).bind fun r13=>cT (bif (!r13) then true else (cT (bif (e3.Kind != 1) then (cT (bif (e3.Amount != 0) then true else (e3.Within != 0)) fun u16:Bool=>u16) else false) fun u15:Bool=>u15)) fun u14:Bool=>some (.inr u14))) fun u7:Bool=>bif u7 then (some false) else (bif (e3.Repair==([]:aa)) then (some true) else ((tF c_1 e3.Repair).bind fun r8=>bd (ρ:=Bool) (bif (decide (r8≥0)) then (bZ (ρ:=Bool) (bif (r8 != i_2) then ((aP c_1.Clauses r8).bind fun e11=>cT (bif (e11.Kind==1) then (e3.Kind != 3) else false) fun u12:Bool=>some (.inr u12)) else (some (.inr false))) fun u10:Bool=>some (.inr u10)) else (some (.inr false))) fun u9:Bool=>some u9)))
def kv (l_8:List aa)(s_9:aa)(self:Int→Option ((List aa)⊕(aa×Int×(List aa))))(x3:Int):Option ((List aa)⊕(aa×Int×(List aa))):=
 bZ (ρ:=(List aa)) (bif (decide (x3<(len l_8))) then ((aP l_8 x3).bind fun e5=>some (.inr (Op.bytesLess e5 s_9))) else (some (.inr false))) fun u4:Bool=>bif u4 then (self (az (x3+1))) else (some (.inr (s_9,x3,l_8)))
def sr (l_8:List aa)(s_9:aa): Int→Option ((List aa)⊕(aa×Int×(List aa))):=aM (kv l_8 s_9)
theorem xU (l_8:List aa)(s_9:aa): ∀a,Fin1 fun f=>kv l_8 s_9 f a:=by
 unfold kv
 repeat first|intro _|exact be|exact bF|apply bM|apply bx|apply bz|apply bD|apply bN
theorem DV (l_8:List aa)(s_9:aa)(x:Int):sr l_8 s_9 x=kv l_8 s_9 (sr l_8 s_9) x:=bT (xU l_8 s_9) x
def vE (l_8:List aa)(s_9:aa):Option (List aa):=
 bd (ρ:=(List aa)) (sr l_8 s_9 0) fun u6:aa×Int×(List aa)=>bd (ρ:=(List aa)) (bif (decide (u6.2.1<(len u6.2.2))) then ((aP u6.2.2 u6.2.1).bind fun e15=>some (.inr (e15==u6.1))) else (some (.inr false))) fun u7:Bool=>bif u7 then (some u6.2.2) else ((iK u6.2.2.length 0 u6.2.1).bind fun s8=>(iO u6.2.2 (0+Int.toNat (0)) (Int.toNat u6.2.1 - Int.toNat (0))).bind fun p9=>(ix 16 ([]:List aa) p9).bind fun a10=>(ix 16 a10 [u6.1]).bind fun a11=>(iK u6.2.2.length u6.2.1 (len u6.2.2)).bind fun s12=>(iO u6.2.2 (0+Int.toNat u6.2.1) (Int.toNat (len u6.2.2) - Int.toNat u6.2.1)).bind fun p13=>(ix 16 a11 p13).bind fun a14=>some a14)
def jh (cl:((List aa)×Condition)→Option (List aa))(l_4:List aa)(c_5:Condition)(self:(Int×(List aa))→Option ((List aa)⊕(List aa)))(x4:Int×(List aa)):Option ((List aa)⊕(List aa)):=
 bif (decide (x4.1<(len c_5.Parts))) then ((aP c_5.Parts x4.1).bind fun e5=>(cl (x4.2,e5)).bind fun r6=>self ((az (x4.1+1)),r6)) else (some (.inr x4.2))
def kV (cl:((List aa)×Condition)→Option (List aa))(l_4:List aa)(c_5:Condition): (Int×(List aa))→Option ((List aa)⊕(List aa)):=aM (jh cl l_4 c_5)
theorem xT (cl:((List aa)×Condition)→Option (List aa))(l_4:List aa)(c_5:Condition): ∀a,Fin1 fun f=>jh cl l_4 c_5 f a:=by
 unfold jh
 repeat first|intro _|exact be|exact bF|apply bM|apply bx|apply bz|apply bD|apply bN
theorem DS (cl:((List aa)×Condition)→Option (List aa))(l_4:List aa)(c_5:Condition)(x:Int×(List aa)):kV cl l_4 c_5 x=jh cl l_4 c_5 (kV cl l_4 c_5) x:=bT (xT cl l_4 c_5) x
def sk (cl:((List aa)×Condition)→Option (List aa))(l_4:List aa)(c_5:Condition):Option (List aa):=
 bif (c_5.Op==2) then ((vE l_4 c_5.Name).bind fun r3=>some r3) else (bd (ρ:=(List aa)) (kV cl l_4 c_5 (0,l_4)) fun u7:(List aa)=>some u7)
def ku (cl:((List aa)×Condition)→Option (List aa))(x:(List aa)×Condition):Option (List aa):=sk cl x.1 x.2
def Jy (l_4:List aa)(c_5:Condition):Option (List aa):=aM ku (l_4,c_5)
theorem UC:∀x,Fin1 fun cl=>ku cl x:=by
 unfold ku sk
 repeat first|intro _|exact be|exact bF|exact jU|exact mF|exact iz|exact kH|exact jk|exact jl|apply bM|apply bx|apply bz|apply bD|apply bN|apply qN|unfold kV|unfold jh
theorem W1 (l_4:List aa)(c_5:Condition):Jy l_4 c_5=sk (aM ku) l_4 c_5:=bT UC (l_4,c_5)
def ky (c_1:Contract)(self:(Int×(List aa))→Option ((List aa)⊕(List aa)))(x2:Int×(List aa)):Option ((List aa)⊕(List aa)):=
 bif (decide (x2.1<(len c_1.Clauses))) then ((aP c_1.Clauses x2.1).bind fun e3=>(vE x2.2 e3.Action).bind fun r4=>(aP c_1.Clauses x2.1).bind fun e5=>(Jy r4 e5.When).bind fun r6=>self ((az (x2.1+1)),r6)) else (some (.inr x2.2))
def mt (c_1:Contract): (Int×(List aa))→Option ((List aa)⊕(List aa)):=aM (ky c_1)
theorem xZ (c_1:Contract): ∀a,Fin1 fun f=>ky c_1 f a:=by
 unfold ky
 repeat first|intro _|exact be|exact bF|apply bM|apply bx|apply bz|apply bD|apply bN
theorem Eb (c_1:Contract)(x:Int×(List aa)):mt c_1 x=ky c_1 (mt c_1) x:=bT (xZ c_1) x
def nR (c_1:Contract):Option (List aa):=
 bd (ρ:=(List aa)) (mt c_1 (0,[])) fun u7:(List aa)=>some u7
def kx (c_1:Contract)(self:Int→Option (Bool⊕Unit))(x4:Int):Option (Bool⊕Unit):=
 bif (decide (x4<(len c_1.Clauses))) then ((aP c_1.Clauses x4).bind fun e5=>(tF c_1 e5.Id).bind fun r6=>bZ (ρ:=Bool) (bif (r6 != x4) then (some (.inr true)) else ((AC c_1 x4).bind fun r8=>some (.inr (!r8)))) fun u7:Bool=>bif u7 then (some (.inl false)) else (self (az (x4+1)))) else (some (.inr ()))
def kX (c_1:Contract): Int→Option (Bool⊕Unit):=aM (kx c_1)
theorem xY (c_1:Contract): ∀a,Fin1 fun f=>kx c_1 f a:=by
 unfold kx
 repeat first|intro _|exact be|exact bF|apply bM|apply bx|apply bz|apply bD|apply bN
theorem D8 (c_1:Contract)(x:Int):kX c_1 x=kx c_1 (kX c_1) x:=bT (xY c_1) x
def AG (c_1:Contract):Option Bool:=
 (dX (len c_1.Clauses) 1 12).bind fun r2=>bd (ρ:=Bool) (bif (!r2) then (some (.inr true)) else ((vN c_1).bind fun r11=>some (.inr (!r11)))) fun u3:Bool=>bif u3 then (some false) else (bd (ρ:=Bool) (kX c_1 0) fun u9:Unit=>(nR c_1).bind fun r10=>some (decide ((len r10)≤16)))
def jg (ar:List aa)(self:Int→Option (Bool⊕Unit))(x2:Int):Option (Bool⊕Unit):=
 cT (bif (decide (x2<(len ar))) then (decide (x2≤16)) else false) fun u3:Bool=>bif u3 then ((aP ar x2).bind fun e4=>(pb e4).bind fun r5=>bZ (ρ:=Bool) (bif (!r5) then (some (.inr true)) else (bZ (ρ:=Bool) (bif (decide (x2>0)) then ((aP ar (az (x2 - 1))).bind fun e8=>(aP ar x2).bind fun e9=>some (.inr (!(Op.bytesLess e8 e9)))) else (some (.inr false))) fun u7:Bool=>some (.inr u7))) fun u6:Bool=>bif u6 then (some (.inl false)) else (self (az (x2+1)))) else (some (.inr ()))
def ie (ar:List aa): Int→Option (Bool⊕Unit):=aM (jg ar)
theorem xP (ar:List aa): ∀a,Fin1 fun f=>jg ar f a:=by
 unfold jg
 repeat first|intro _|exact be|exact bF|apply bM|apply bx|apply bz|apply bD|apply bN
theorem tD (ar:List aa)(x:Int):ie ar x=jg ar (ie ar) x:=bT (xP ar) x
def An (ar:List aa):Option Bool:=
 bd (ρ:=Bool) (ie ar 0) fun u10:Unit=>some (decide ((len ar)≤16))
def mq (c_1:Contract)(i_2:Int)(self:Int→Option (Bool⊕Unit))(x3:Int):Option (Bool⊕Unit):=
 bif (decide (x3<(len c_1.Clauses))) then ((aP c_1.Clauses x3).bind fun e4=>(aP c_1.Clauses i_2).bind fun e5=>bif (e4.Repair==e5.Id) then (some (.inl true)) else (self (az (x3+1)))) else (some (.inr ()))
def sw (c_1:Contract)(i_2:Int): Int→Option (Bool⊕Unit):=aM (mq c_1 i_2)
theorem xW (c_1:Contract)(i_2:Int): ∀a,Fin1 fun f=>mq c_1 i_2 f a:=by
 unfold mq
 repeat first|intro _|exact be|exact bF|apply bM|apply bx|apply bz|apply bD|apply bN
theorem Nx (c_1:Contract)(i_2:Int)(x:Int):sw c_1 i_2 x=mq c_1 i_2 (sw c_1 i_2) x:=bT (xW c_1 i_2) x
def AE (c_1:Contract)(i_2:Int):Option Bool:=
 bd (ρ:=Bool) (sw c_1 i_2 0) fun u6:Unit=>some false
def kA (s_1:State)(i_2:Int)(self:(Int×Int)→Option (Int⊕Int))(x3:Int×Int):Option (Int⊕Int):=
 bif (decide (x3.2<(len s_1.Duties))) then ((aP s_1.Duties x3.2).bind fun e4=>cT (bif (e4.Clause==i_2) then (az (x3.1+1)) else x3.1) fun u5:Int=>self (u5,(az (x3.2+1)))) else (some (.inr x3.1))
def kY (s_1:State)(i_2:Int): (Int×Int)→Option (Int⊕Int):=aM (kA s_1 i_2)
theorem yd (s_1:State)(i_2:Int): ∀a,Fin1 fun f=>kA s_1 i_2 f a:=by
 unfold kA
 repeat first|intro _|exact be|exact bF|apply bM|apply bx|apply bz|apply bD|apply bN
theorem Em (s_1:State)(i_2:Int)(x:Int×Int):kY s_1 i_2 x=kA s_1 i_2 (kY s_1 i_2) x:=bT (yd s_1 i_2) x
def AL (s_1:State)(i_2:Int):Option Int:=
 bd (ρ:=Int) (kY s_1 i_2 (0,0)) fun u6:Int=>some u6
def AN (c_1:Contract)(s_2:State)(k_3:Int):Option Bool:=
 (aP s_2.Duties k_3).bind fun e4=>(dX e4.Clause 0 (az ((len c_1.Clauses) - 1))).bind fun r5=>bd (ρ:=Bool) (bif (!r5) then (some (.inr true)) else ((aP c_1.Clauses e4.Clause).bind fun e35=>bZ (ρ:=Bool) (bif (e35.Kind != 1) then (some (.inr true)) else ((dX e4.Since 0 s_2.Day).bind fun r37=>bZ (ρ:=Bool) (bif (!r37) then (some (.inr true)) else ((aP c_1.Clauses e4.Clause).bind fun e39=>bZ (ρ:=Bool) (bif (e4.Due != (az (e4.Since+e39.Within))) then (some (.inr true)) else ((pW e4.Due).bind fun r41=>bZ (ρ:=Bool) (bif (!r41) then (some (.inr true)) else ((dX e4.Status 1 4).bind fun r43=>some (.inr (!r43)))) fun u42:Bool=>some (.inr u42))) fun u40:Bool=>some (.inr u40))) fun u38:Bool=>some (.inr u38))) fun u36:Bool=>some (.inr u36))) fun u6:Bool=>bif u6 then (some false) else (bd (ρ:=Bool) (bif (decide (k_3>0)) then ((aP s_2.Duties (az (k_3 - 1))).bind fun e11=>cT (bif (decide (e11.Since>e4.Since)) then true else (cT (bif (e4.Status==1) then (cT (bif (decide (e4.Due<s_2.Day)) then true else (cT (bif s_2.Over then true else (cT (bif (e4.Status==3) then (cT (bif (decide (e4.Due≥s_2.Day)) then true else (cT (bif (e4.Status==4) then (!s_2.Over) else false) fun u18:Bool=>u18)) fun u17:Bool=>u17) else (cT (bif (e4.Status==4) then (!s_2.Over) else false) fun u19:Bool=>u19)) fun u16:Bool=>u16)) fun u15:Bool=>u15)) fun u14:Bool=>u14) else (cT (bif (e4.Status==3) then (cT (bif (decide (e4.Due≥s_2.Day)) then true else (cT (bif (e4.Status==4) then (!s_2.Over) else false) fun u22:Bool=>u22)) fun u21:Bool=>u21) else (cT (bif (e4.Status==4) then (!s_2.Over) else false) fun u23:Bool=>u23)) fun u20:Bool=>u20)) fun u13:Bool=>u13)) fun u12:Bool=>some (.inr u12)) else (cT (bif (e4.Status==1) then (cT (bif (decide (e4.Due<s_2.Day)) then true else (cT (bif s_2.Over then true else (cT (bif (e4.Status==3) then (cT (bif (decide (e4.Due≥s_2.Day)) then true else (cT (bif (e4.Status==4) then (!s_2.Over) else false) fun u29:Bool=>u29)) fun u28:Bool=>u28) else (cT (bif (e4.Status==4) then (!s_2.Over) else false) fun u30:Bool=>u30)) fun u27:Bool=>u27)) fun u26:Bool=>u26)) fun u25:Bool=>u25) else (cT (bif (e4.Status==3) then (cT (bif (decide (e4.Due≥s_2.Day)) then true else (cT (bif (e4.Status==4) then (!s_2.Over) else false) fun u33:Bool=>u33)) fun u32:Bool=>u32) else (cT (bif (e4.Status==4) then (!s_2.Over) else false) fun u34:Bool=>u34)) fun u31:Bool=>u31)) fun u24:Bool=>some (.inr u24))) fun u7:Bool=>bif u7 then (some false) else ((AE c_1 e4.Clause).bind fun r8=>bd (ρ:=Bool) (bif r8 then (some (.inr true)) else ((AL s_2 e4.Clause).bind fun r10=>some (.inr (r10==1)))) fun u9:Bool=>some u9))
def Ak (x_1:Int):Option Bool:=
 (dX x_1 (-1000000000) 1000000000).bind fun r2=>some r2
def kq (ar:List Int)(self:(Int×Int)→Option (Int⊕Int))(x2:Int×Int):Option (Int⊕Int):=
 bif (decide (x2.2<(len ar))) then ((aP ar x2.2).bind fun e3=>self ((az (x2.1+e3)),(az (x2.2+1)))) else (some (.inr x2.1))
def jP (ar:List Int): (Int×Int)→Option (Int⊕Int):=aM (kq ar)
theorem xO (ar:List Int): ∀a,Fin1 fun f=>kq ar f a:=by
 unfold kq
 repeat first|intro _|exact be|exact bF|apply bM|apply bx|apply bz|apply bD|apply bN
theorem Dx (ar:List Int)(x:Int×Int):jP ar x=kq ar (jP ar) x:=bT (xO ar) x
def tC (ar:List Int):Option Int:=
 bd (ρ:=Int) (jP ar (0,0)) fun u4:Int=>some u4
def mu (c_1:Contract)(s_2:State)(r5:(List aa))(self:Int→Option (Bool⊕Unit))(x6:Int):Option (Bool⊕Unit):=
 bif (decide (x6<(len s_2.Facts))) then ((aP s_2.Facts x6).bind fun e7=>(pa r5 e7).bind fun r8=>bif (!r8) then (some (.inl false)) else (self (az (x6+1)))) else (some (.inr ()))
def sD (c_1:Contract)(s_2:State)(r5:(List aa)):Int→Option (Bool⊕Unit):=aM (mu c_1 s_2 r5)
theorem ye (c_1:Contract)(s_2:State)(r5:(List aa)):∀a,Fin1 fun f=>mu c_1 s_2 r5 f a:=by
 unfold mu
 repeat first|intro _|exact be|exact bF|apply bM|apply bx|apply bz|apply bD|apply bN
theorem Nz (c_1:Contract)(s_2:State)(r5:(List aa))(x:Int):sD c_1 s_2 r5 x=mu c_1 s_2 r5 (sD c_1 s_2 r5) x:=bT (ye c_1 s_2 r5) x
def kB (c_1:Contract)(s_2:State)(self:Int→Option (Bool⊕Unit))(x10:Int):Option (Bool⊕Unit):=
 bif (decide (x10<(len s_2.Duties))) then ((AN c_1 s_2 x10).bind fun r11=>bif (!r11) then (some (.inl false)) else (self (az (x10+1)))) else (some (.inr ()))
def mw (c_1:Contract)(s_2:State): Int→Option (Bool⊕Unit):=aM (kB c_1 s_2)
theorem yf (c_1:Contract)(s_2:State): ∀a,Fin1 fun f=>kB c_1 s_2 f a:=by
 unfold kB
 repeat first|intro _|exact be|exact bF|apply bM|apply bx|apply bz|apply bD|apply bN
theorem Er (c_1:Contract)(s_2:State)(x:Int):mw c_1 s_2 x=kB c_1 s_2 (mw c_1 s_2) x:=bT (yf c_1 s_2) x
def my (c_1:Contract)(s_2:State)(self:Int→Option (Bool⊕Unit))(x13:Int):Option (Bool⊕Unit):=
 bif (decide (x13<(len s_2.Balances))) then ((aP s_2.Balances x13).bind fun e14=>(Ak e14).bind fun r15=>bif (!r15) then (some (.inl false)) else (self (az (x13+1)))) else (some (.inr ()))
def sE (c_1:Contract)(s_2:State): Int→Option (Bool⊕Unit):=aM (my c_1 s_2)
theorem yg (c_1:Contract)(s_2:State): ∀a,Fin1 fun f=>my c_1 s_2 f a:=by
 unfold my
 repeat first|intro _|exact be|exact bF|apply bM|apply bx|apply bz|apply bD|apply bN
theorem NA (c_1:Contract)(s_2:State)(x:Int):sE c_1 s_2 x=my c_1 s_2 (sE c_1 s_2) x:=bT (yg c_1 s_2) x
def tI (c_1:Contract)(s_2:State):Option Bool:=
 (AG c_1).bind fun r3=>bd (ρ:=Bool) (bif (!r3) then (some (.inr true)) else ((pW s_2.Day).bind fun r18=>bZ (ρ:=Bool) (bif (!r18) then (some (.inr true)) else ((An s_2.Facts).bind fun r20=>cT (bif (!r20) then true else (cT (bif (decide ((len s_2.Duties)>24)) then true else ((len s_2.Balances) != (len c_1.Parties))) fun u22:Bool=>u22)) fun u21:Bool=>some (.inr u21))) fun u19:Bool=>some (.inr u19))) fun u4:Bool=>bif u4 then (some false) else ((nR c_1).bind fun r5=>bd (ρ:=Bool) (sD c_1 s_2 r5 0) fun u9:Unit=>bd (ρ:=Bool) (mw c_1 s_2 0) fun u12:Unit=>bd (ρ:=Bool) (sE c_1 s_2 0) fun u16:Unit=>(tC s_2.Balances).bind fun r17=>some (r17==0))
def AJ (c_1:Contract)(s_2:State)(aE:Int)(aA:aa):Option Bool:=
 (tI c_1 s_2).bind fun r5=>bd (ρ:=Bool) (bif r5 then (bZ (ρ:=Bool) (bif (!s_2.Over) then ((dX aE 0 (az ((len c_1.Parties) - 1))).bind fun r8=>bZ (ρ:=Bool) (bif r8 then ((pb aA).bind fun r10=>some (.inr r10)) else (some (.inr false))) fun u9:Bool=>some (.inr u9)) else (some (.inr false))) fun u7:Bool=>some (.inr u7)) else (some (.inr false))) fun u6:Bool=>some u6
def si (cy:(Condition×(List aa)×Int)→Option Bool)(c_1:Condition)(bo:List aa)(b6:Int):Option Bool:=
 bif (c_1.Op==1) then (some true) else (bif (c_1.Op==2) then ((pa bo c_1.Name).bind fun r4=>some r4) else (bif (c_1.Op==3) then (some (decide (b6≥c_1.Day))) else (bif (c_1.Op==4) then ((aP c_1.Parts 0).bind fun e5=>(cy (e5,bo,b6)).bind fun r6=>some (!r6)) else (bif (c_1.Op==5) then ((aP c_1.Parts 0).bind fun e7=>(cy (e7,bo,b6)).bind fun r8=>bd (ρ:=Bool) (bif r8 then ((aP c_1.Parts 1).bind fun e10=>(cy (e10,bo,b6)).bind fun r11=>some (.inr r11)) else (some (.inr false))) fun u9:Bool=>some u9) else ((aP c_1.Parts 0).bind fun e12=>(cy (e12,bo,b6)).bind fun r13=>bd (ρ:=Bool) (bif r13 then (some (.inr true)) else ((aP c_1.Parts 1).bind fun e15=>(cy (e15,bo,b6)).bind fun r16=>some (.inr r16))) fun u14:Bool=>some u14)))))
def kt (cy:(Condition×(List aa)×Int)→Option Bool)(x:Condition×(List aa)×Int):Option Bool:=si cy x.1 x.2.1 x.2.2
def F6 (c_1:Condition)(bo:List aa)(b6:Int):Option Bool:=aM kt (c_1,bo,b6)
theorem Uz:∀x,Fin1 fun cy=>kt cy x:=by
 unfold kt si
 repeat first|intro _|exact be|exact bF|apply bM|apply bx|apply bz|apply bD|apply bN
theorem WZ (c_1:Condition)(bo:List aa)(b6:Int):F6 c_1 bo b6=si (aM kt) c_1 bo b6:=bT Uz (c_1,bo,b6)
def AU (r_1:l9Run)(i_2:Int):Option Bool:=
 (aP r_1.f_c.Clauses i_2).bind fun e3=>(F6 e3.When r_1.f_s.Facts r_1.f_s.Day).bind fun r4=>some r4
def mz (r_1:l9Run)(cU:Int)(aE:Int)(aA:aa)(self:Int→Option (Int⊕Unit))(x5:Int):Option (Int⊕Unit):=
 bif (decide (x5<(len r_1.f_c.Clauses))) then ((aP r_1.f_c.Clauses x5).bind fun e6=>bZ (ρ:=Int) (bif (e6.Kind==cU) then (bZ (ρ:=Int) (bif (e6.Party==aE) then (bZ (ρ:=Int) (bif (e6.Action==aA) then ((AU r_1 x5).bind fun r10=>some (.inr r10)) else (some (.inr false))) fun u9:Bool=>some (.inr u9)) else (some (.inr false))) fun u8:Bool=>some (.inr u8)) else (some (.inr false))) fun u7:Bool=>bif u7 then (some (.inl x5)) else (self (az (x5+1)))) else (some (.inr ()))
def sG (r_1:l9Run)(cU:Int)(aE:Int)(aA:aa): Int→Option (Int⊕Unit):=aM (mz r_1 cU aE aA)
theorem yh (r_1:l9Run)(cU:Int)(aE:Int)(aA:aa): ∀a,Fin1 fun f=>mz r_1 cU aE aA f a:=by
 unfold mz
 repeat first|intro _|exact be|exact bF|apply bM|apply bx|apply bz|apply bD|apply bN
theorem NB (r_1:l9Run)(cU:Int)(aE:Int)(aA:aa)(x:Int):sG r_1 cU aE aA x=mz r_1 cU aE aA (sG r_1 cU aE aA) x:=bT (yh r_1 cU aE aA) x
def AQ (r_1:l9Run)(cU:Int)(aE:Int)(aA:aa):Option Int:=
 bd (ρ:=Int) (sG r_1 cU aE aA 0) fun u11:Unit=>some (-1)
def Ai (c_1:Contract)(s_2:State)(aE:Int)(aA:aa):Option (Int×Bool):=
 (AJ c_1 s_2 aE aA).bind fun r5=>bif (!r5) then (some (0,false)) else ((AQ (l9Run.mk c_1 s_2 false) 4 aE aA).bind fun r6=>some (r6,true))
def ic (n_1:Int)(no:Int)(kJ:Int):Option Bool:=
 cT (bif (decide (n_1≥no)) then (decide (n_1≤kJ)) else false) fun u4:Bool=>some u4
def I5 (s_1:aa)(c_2:Int):Option Int:=
 (qy s_1 c_2).bind fun r3=>some r3
def I2 (s_1:aa)(aX:aa):Option Int:=
 cT (bif ((len aX)==0) then true else (aX==s_1)) fun u3:Bool=>bif u3 then (some 0) else (bif ((len aX)==1) then ((aP aX 0).bind fun c4=>(I5 s_1 (c4.toNat:Int)).bind fun r5=>some r5) else (bif (decide ((len aX)≥(len s_1))) then (some (-1)) else none))
def Gc (s_1:aa)(aX:aa):Option Int:=
 (I2 s_1 aX).bind fun r3=>some r3
def qG (s_1:aa)(aX:aa)(self:(aa×Int)→Option (Int⊕Unit))(x5:aa×Int):Option (Int⊕Unit):=
 (Gc x5.1 aX).bind fun r6=>bif (r6==(-1)) then (some (.inl x5.2)) else ((ph x5.1 (az (r6+(len aX))) (len x5.1)).bind fun s7=>self (s7,(az (x5.2+1))))
def Mu (s_1:aa)(aX:aa): (aa×Int)→Option (Int⊕Unit):=aM (qG s_1 aX)
theorem L0 (s_1:aa)(aX:aa): ∀a,Fin1 fun f=>qG s_1 aX f a:=by
 unfold qG
 repeat first|intro _|exact be|exact bF|apply bM|apply bx|apply bz|apply bD|apply bN
def JL (s_1:aa)(aX:aa):Option Int:=
 bif ((len aX)==0) then none else (bif ((len aX)==1) then ((aP aX 0).bind fun c3=>(wI s_1 (c3.toNat:Int)).bind fun r4=>some r4) else (bd (ρ:=Int) (Mu s_1 aX (s_1,0)) fun u8:Unit=>none))
def qH (s_1:aa)(dG:aa)(dh:Int)(n_4:Int)(u5:Int)(self:(aa×Int×(List aa))→Option ((List aa)⊕(aa×Int×(List aa))))(x7:aa×Int×(List aa)):Option ((List aa)⊕(aa×Int×(List aa))):=
 bif (decide (x7.2.1<(az ((if (az ((len s_1)+1))<u5 then (az ((len s_1)+1)) else u5) - 1)))) then ((Gc x7.1 dG).bind fun r8=>bif (decide (r8<0)) then (some (.inr (x7.1,x7.2.1,x7.2.2))) else ((ph x7.1 0 (az (r8+dh))).bind fun s9=>(aP x7.2.2 x7.2.1).bind fun e10=>(ph x7.1 (az (r8+(len dG))) (len x7.1)).bind fun s11=>self (s11,(az (x7.2.1+1)),(fI x7.2.2 x7.2.1 s9)))) else (some (.inr (x7.1,x7.2.1,x7.2.2)))
def wQ (s_1:aa)(dG:aa)(dh:Int)(n_4:Int)(u5:Int):(aa×Int×(List aa))→Option ((List aa)⊕(aa×Int×(List aa))):=aM (qH s_1 dG dh n_4 u5)
theorem yi (s_1:aa)(dG:aa)(dh:Int)(n_4:Int)(u5:Int):∀a,Fin1 fun f=>qH s_1 dG dh n_4 u5 f a:=by
 unfold qH
 repeat first|intro _|exact be|exact bF|apply bM|apply bx|apply bz|apply bD|apply bN
def JN (s_1:aa)(dG:aa)(dh:Int)(n_4:Int):Option (List aa):=
 bif (n_4==0) then (some []) else (bif (dG==([]:aa)) then none else (bd (ρ:=(List aa)) (bif (decide (n_4<0)) then ((JL s_1 dG).bind fun r16=>some (.inr (az (r16+1)))) else (some (.inr n_4))) fun u5:Int=>(qT 16 [] (if (az ((len s_1)+1))<u5 then (az ((len s_1)+1)) else u5)).bind fun m6=>bd (ρ:=(List aa)) (wQ s_1 dG dh n_4 u5 (s_1,0,m6)) fun u12:aa×Int×(List aa)=>(aP u12.2.2 u12.2.1).bind fun e13=>(iK (fI u12.2.2 u12.2.1 u12.1).length 0 (az (u12.2.1+1))).bind fun s14=>(iO (fI u12.2.2 u12.2.1 u12.1) (0+Int.toNat (0)) (Int.toNat (az (u12.2.1+1)) - Int.toNat (0))).bind fun p15=>some p15))
def AX (s_1:aa)(dG:aa):Option (List aa):=
 (JN s_1 dG 0 (-1)).bind fun r3=>some r3
def jf (s_1:List aa)(v_2:aa)(self:Int→Option (Int⊕Unit))(x3:Int):Option (Int⊕Unit):=
 bif (decide (x3<(len s_1))) then ((aP s_1 x3).bind fun e4=>bif (v_2==e4) then (some (.inl x3)) else (self (az (x3+1)))) else (some (.inr ()))
def nQ (s_1:List aa)(v_2:aa): Int→Option (Int⊕Unit):=aM (jf s_1 v_2)
theorem xN (s_1:List aa)(v_2:aa): ∀a,Fin1 fun f=>jf s_1 v_2 f a:=by
 unfold jf
 repeat first|intro _|exact be|exact bF|apply bM|apply bx|apply bz|apply bD|apply bN
theorem tB (s_1:List aa)(v_2:aa)(x:Int):nQ s_1 v_2 x=jf s_1 v_2 (nQ s_1 v_2) x:=bT (xN s_1 v_2) x
def vr (s_1:List aa)(v_2:aa):Option Int:=
 bd (ρ:=Int) (nQ s_1 v_2 0) fun u5:Unit=>some (-1)
def mP (s_1:List aa)(v_2:aa):Option Bool:=
 (vr s_1 v_2).bind fun r3=>some (decide (r3≥0))
def nN (s_1:aa)(self:Int→Option (Bool⊕Unit))(x4:Int):Option (Bool⊕Unit):=
 bif (decide (x4<(len s_1))) then ((aP s_1 x4).bind fun c5=>cT (bif (decide ((c5.toNat:Int)<97)) then (cT (bif (decide ((c5.toNat:Int)<48)) then true else (decide ((c5.toNat:Int)>57))) fun u7:Bool=>u7) else (cT (bif (decide ((c5.toNat:Int)>122)) then (cT (bif (decide ((c5.toNat:Int)<48)) then true else (decide ((c5.toNat:Int)>57))) fun u9:Bool=>u9) else false) fun u8:Bool=>u8)) fun u6:Bool=>bif u6 then (some (.inl false)) else (self (az (x4+1)))) else (some (.inr ()))
def vg (s_1:aa): Int→Option (Bool⊕Unit):=aM (nN s_1)
theorem Cu (s_1:aa): ∀a,Fin1 fun f=>nN s_1 f a:=by
 unfold nN
 repeat first|intro _|exact be|exact bF|apply bM|apply bx|apply bz|apply bD|apply bN
theorem PP (s_1:aa)(x:Int):vg s_1 x=nN s_1 (vg s_1) x:=bT (Cu s_1) x
def rQ (s_1:aa):Option Bool:=
 (ic (len s_1) 1 8).bind fun r2=>bd (ρ:=Bool) (bif (!r2) then (some (.inr true)) else ((aP s_1 0).bind fun c13=>bZ (ρ:=Bool) (bif (decide ((c13.toNat:Int)<97)) then (some (.inr true)) else ((aP s_1 0).bind fun c15=>some (.inr (decide ((c15.toNat:Int)>122))))) fun u14:Bool=>some (.inr u14))) fun u3:Bool=>bif u3 then (some false) else (bd (ρ:=Bool) (vg s_1 0) fun u10:Unit=>(AX ([116,114,117,101,32,102,114,111,109,32,110,111,116,32,97,110,100,32,111,114,32,98,111,116,104,32,101,105,116,104,101,114,32,105,116,32,105,110]:aa) ([32]:aa)).bind fun r11=>(mP r11 s_1).bind fun r12=>some (!r12))
def lS (ar:List aa)(self:Int→Option (Bool⊕Unit))(x2:Int):Option (Bool⊕Unit):=
 bif (decide (x2<(len ar))) then ((aP ar x2).bind fun e3=>(rQ e3).bind fun r4=>bZ (ρ:=Bool) (bif (!r4) then (some (.inr true)) else ((ph ar 0 x2).bind fun s6=>(mP s6 e3).bind fun r7=>some (.inr r7))) fun u5:Bool=>bif u5 then (some (.inl false)) else (self (az (x2+1)))) else (some (.inr ()))
def vS (ar:List aa): Int→Option (Bool⊕Unit):=aM (lS ar)
theorem EK (ar:List aa): ∀a,Fin1 fun f=>lS ar f a:=by
 unfold lS
 repeat first|intro _|exact be|exact bF|apply bM|apply bx|apply bz|apply bD|apply bN
theorem G5 (ar:List aa)(x:Int):vS ar x=lS ar (vS ar) x:=bT (EK ar) x
def JP (ar:List aa):Option Bool:=
 bd (ρ:=Bool) (vS ar 0) fun u8:Unit=>(ic (len ar) 2 4).bind fun r9=>some r9
def RZ (x_1:Clause)(a_2:aa):Option Bool:=
 some (x_1.Id==a_2)
def mf (s_1:List Clause)(f_2:aa)(self:Int→Option (Int⊕Unit))(x3:Int):Option (Int⊕Unit):=
 bif (decide (x3<(len s_1))) then ((aP s_1 x3).bind fun e4=>(RZ e4 f_2).bind fun r5=>bif r5 then (some (.inl x3)) else (self (az (x3+1)))) else (some (.inr ()))
def rY (s_1:List Clause)(f_2:aa): Int→Option (Int⊕Unit):=aM (mf s_1 f_2)
theorem xH (s_1:List Clause)(f_2:aa): ∀a,Fin1 fun f=>mf s_1 f_2 f a:=by
 unfold mf
 repeat first|intro _|exact be|exact bF|apply bM|apply bx|apply bz|apply bD|apply bN
theorem No (s_1:List Clause)(f_2:aa)(x:Int):rY s_1 f_2 x=mf s_1 f_2 (rY s_1 f_2) x:=bT (xH s_1 f_2) x
def FY (s_1:List Clause)(f_2:aa):Option Int:=
 bd (ρ:=Int) (rY s_1 f_2 0) fun u6:Unit=>some (-1)
def EM (c_1:Contract)(eE:aa):Option Int:=
 (FY c_1.Clauses eE).bind fun r3=>some r3
def nD (gm:Int):Option Bool:=
 (ic gm 0 36524).bind fun r2=>some r2
def kD (aW:(Condition×Int)→Option Int)(c_1:Condition)(cC:Int)(self:(Int×Int)→Option (Int⊕Int))(x5:Int×Int):Option (Int⊕Int):=
 bif (decide (x5.2<(len c_1.Parts))) then ((aP c_1.Parts x5.2).bind fun e6=>(aW (e6,x5.1)).bind fun r7=>bif (decide (r7<0)) then (some (.inl (-1))) else (self (r7,(az (x5.2+1))))) else (some (.inr x5.1))
def lz (aW:(Condition×Int)→Option Int)(c_1:Condition)(cC:Int): (Int×Int)→Option (Int⊕Int):=aM (kD aW c_1 cC)
theorem EP (aW:(Condition×Int)→Option Int)(c_1:Condition)(cC:Int): ∀a,Fin1 fun f=>kD aW c_1 cC f a:=by
 unfold kD
 repeat first|intro _|exact be|exact bF|apply bM|apply bx|apply bz|apply bD|apply bN
theorem G6 (aW:(Condition×Int)→Option Int)(c_1:Condition)(cC:Int)(x:Int×Int):lz aW c_1 cC x=kD aW c_1 cC (lz aW c_1 cC) x:=bT (EP aW c_1 cC) x
def wU (aW:(Condition×Int)→Option Int)(c_1:Condition)(cC:Int):Option Int:=
 bd (ρ:=Int) (bif (decide ((az (cC+1))>15)) then (some (.inr true)) else ((ic c_1.Op 1 6).bind fun r20=>bZ (ρ:=Int) (bif (!r20) then (some (.inr true)) else ((aP [(-1),0,0,0,1,2,2] c_1.Op).bind fun e22=>some (.inr ((len c_1.Parts) != e22)))) fun u21:Bool=>some (.inr u21))) fun u3:Bool=>bif u3 then (some (-1)) else (bd (ρ:=Int) (bif (!((c_1.Op==2)==(!(c_1.Name==([]:aa))))) then (some (.inr true)) else (bZ (ρ:=Int) (bif (c_1.Op==2) then ((rQ c_1.Name).bind fun r10=>bZ (ρ:=Int) (bif (!r10) then (some (.inr true)) else (bZ (ρ:=Int) (bif (c_1.Op != 3) then (bZ (ρ:=Int) (bif (c_1.Day != 0) then (some (.inr true)) else ((nD c_1.Day).bind fun r14=>some (.inr (!r14)))) fun u13:Bool=>some (.inr u13)) else ((nD c_1.Day).bind fun r15=>some (.inr (!r15)))) fun u12:Bool=>some (.inr u12))) fun u11:Bool=>some (.inr u11)) else (bZ (ρ:=Int) (bif (c_1.Op != 3) then (bZ (ρ:=Int) (bif (c_1.Day != 0) then (some (.inr true)) else ((nD c_1.Day).bind fun r18=>some (.inr (!r18)))) fun u17:Bool=>some (.inr u17)) else ((nD c_1.Day).bind fun r19=>some (.inr (!r19)))) fun u16:Bool=>some (.inr u16))) fun u9:Bool=>some (.inr u9))) fun u4:Bool=>bif u4 then (some (-1)) else (bd (ρ:=Int) (lz aW c_1 cC ((az (cC+1)),0)) fun u8:Int=>some u8))
def lG (aW:(Condition×Int)→Option Int)(x:Condition×Int):Option Int:=wU aW x.1 x.2
def R1 (c_1:Condition)(cC:Int):Option Int:=aM lG (c_1,cC)
theorem Xb:∀x,Fin1 fun aW=>lG aW x:=by
 unfold lG wU
 repeat first|intro _|exact be|exact bF|exact jU|exact mF|exact iz|exact kH|exact jk|exact jl|apply bM|apply bx|apply bz|apply bD|apply bN|apply qN|unfold lz|unfold kD
theorem aao (c_1:Condition)(cC:Int):R1 c_1 cC=wU (aM lG) c_1 cC:=bT Xb (c_1,cC)
def IY (c_1:Condition):Option Bool:=
 (R1 c_1 0).bind fun r2=>some (decide (r2>0))
def JS (c_1:Contract)(i_2:Int):Option Bool:=
 (aP c_1.Clauses i_2).bind fun e3=>(rQ e3.Id).bind fun r4=>bd (ρ:=Bool) (bif (!r4) then (some (.inr true)) else ((EM c_1 e3.Id).bind fun r23=>bZ (ρ:=Bool) (bif (r23 != i_2) then (some (.inr true)) else ((rQ e3.Action).bind fun r25=>bZ (ρ:=Bool) (bif (!r25) then (some (.inr true)) else ((ic e3.Kind 1 4).bind fun r27=>some (.inr (!r27)))) fun u26:Bool=>some (.inr u26))) fun u24:Bool=>some (.inr u24))) fun u5:Bool=>bif u5 then (some false) else ((ic e3.Party 0 (az ((len c_1.Parties) - 1))).bind fun r6=>bd (ρ:=Bool) (bif (!r6) then (some (.inr true)) else ((ic e3.Other 0 (az ((len c_1.Parties) - 1))).bind fun r19=>bZ (ρ:=Bool) (bif (!r19) then (some (.inr true)) else (bZ (ρ:=Bool) (bif (e3.Party==e3.Other) then (some (.inr true)) else ((IY e3.When).bind fun r22=>some (.inr (!r22)))) fun u21:Bool=>some (.inr u21))) fun u20:Bool=>some (.inr u20))) fun u7:Bool=>bif u7 then (some false) else ((ic e3.Amount 0 1000000).bind fun r8=>bd (ρ:=Bool) (bif (!r8) then (some (.inr true)) else ((ic e3.Within 0 400).bind fun r15=>cT (bif (!r15) then true else (cT (bif (e3.Kind != 1) then (cT (bif (e3.Amount != 0) then true else (e3.Within != 0)) fun u18:Bool=>u18) else false) fun u17:Bool=>u17)) fun u16:Bool=>some (.inr u16))) fun u9:Bool=>bif u9 then (some false) else (bif (e3.Repair==([]:aa)) then (some true) else ((EM c_1 e3.Repair).bind fun r10=>bd (ρ:=Bool) (bif (e3.Kind != 3) then (bZ (ρ:=Bool) (bif (decide (r10≥0)) then (bZ (ρ:=Bool) (bif (r10 != i_2) then ((aP c_1.Clauses r10).bind fun e14=>some (.inr (e14.Kind==1))) else (some (.inr false))) fun u13:Bool=>some (.inr u13)) else (some (.inr false))) fun u12:Bool=>some (.inr u12)) else (some (.inr false))) fun u11:Bool=>some u11))))
def kC (cz:(Condition×(List aa))→Option (List aa))(c_3:Condition)(dA:List aa)(self:(Int×(List aa))→Option ((List aa)⊕(List aa)))(x4:Int×(List aa)):Option ((List aa)⊕(List aa)):=
 bif (decide (x4.1<(len c_3.Parts))) then ((aP c_3.Parts x4.1).bind fun e5=>(cz (e5,x4.2)).bind fun r6=>self ((az (x4.1+1)),r6)) else (some (.inr x4.2))
def mT (cz:(Condition×(List aa))→Option (List aa))(c_3:Condition)(dA:List aa): (Int×(List aa))→Option ((List aa)⊕(List aa)):=aM (kC cz c_3 dA)
theorem EI (cz:(Condition×(List aa))→Option (List aa))(c_3:Condition)(dA:List aa): ∀a,Fin1 fun f=>kC cz c_3 dA f a:=by
 unfold kC
 repeat first|intro _|exact be|exact bF|apply bM|apply bx|apply bz|apply bD|apply bN
theorem G4 (cz:(Condition×(List aa))→Option (List aa))(c_3:Condition)(dA:List aa)(x:Int×(List aa)):mT cz c_3 dA x=kC cz c_3 dA (mT cz c_3 dA) x:=bT (EI cz c_3 dA) x
def wS (cz:(Condition×(List aa))→Option (List aa))(c_3:Condition)(dA:List aa):Option (List aa):=
 bd (ρ:=(List aa)) (bif (c_3.Op==2) then ((ix 16 dA [c_3.Name]).bind fun a8=>some (.inr a8)) else (some (.inr dA))) fun u3:(List aa)=>bd (ρ:=(List aa)) (mT cz c_3 dA (0,u3)) fun u7:(List aa)=>some u7
def mS (cz:(Condition×(List aa))→Option (List aa))(x:Condition×(List aa)):Option (List aa):=wS cz x.1 x.2
def RX (c_3:Condition)(dA:List aa):Option (List aa):=aM mS (c_3,dA)
theorem W5:∀x,Fin1 fun cz=>mS cz x:=by
 unfold mS wS
 repeat first|intro _|exact be|exact bF|exact jU|exact mF|exact iz|exact kH|exact jk|exact jl|apply bM|apply bx|apply bz|apply bD|apply bN|apply qN|unfold mT|unfold kC
theorem aan (c_3:Condition)(dA:List aa):RX c_3 dA=wS (aM mS) c_3 dA:=bT W5 (c_3,dA)
def ko (s_2:List aa)(x2:Int)(self:(Int×Int×(List aa))→Option ((List aa)⊕(Int×(List aa))))(x6:Int×Int×(List aa)):Option ((List aa)⊕(Int×(List aa))):=
 bif (decide (x6.2.1<(((Int.toNat (len s_2) - Int.toNat x2):Nat):Int))) then ((ub x6.2.2 (0+Int.toNat x2) (Int.toNat (len s_2) - Int.toNat x2) x6.2.1).bind fun e7=>(ub x6.2.2 (0+Int.toNat x2) (Int.toNat (len s_2) - Int.toNat x2) (az (x6.2.1 - 1))).bind fun e8=>bZ (ρ:=(List aa)) (bif (!(e7==e8)) then ((ub x6.2.2 (0+Int.toNat x2) (Int.toNat (len s_2) - Int.toNat x2) x6.2.1).bind fun e10=>(aP x6.2.2 x6.1).bind fun e11=>some (.inr ((az (x6.1+1)),(fI x6.2.2 x6.1 e10)))) else (some (.inr (x6.1,x6.2.2)))) fun u9:Int×(List aa)=>self (u9.1,(az (x6.2.1+1)),u9.2)) else (some (.inr (x6.1,x6.2.2)))
def jO (s_2:List aa)(x2:Int):(Int×Int×(List aa))→Option ((List aa)⊕(Int×(List aa))):=aM (ko s_2 x2)
theorem xG (s_2:List aa)(x2:Int):∀a,Fin1 fun f=>ko s_2 x2 f a:=by
 unfold ko
 repeat first|intro _|exact be|exact bF|apply bM|apply bx|apply bz|apply bD|apply bN
theorem C0 (s_2:List aa)(x2:Int)(x:Int×Int×(List aa)):jO s_2 x2 x=ko s_2 x2 (jO s_2 x2) x:=bT (xG s_2 x2) x
def kn (s_2:List aa)(self:Int→Option ((List aa)⊕(List aa)))(x2:Int):Option ((List aa)⊕(List aa)):=
 bif (decide (x2<(len s_2))) then ((aP s_2 x2).bind fun e3=>(aP s_2 (az (x2 - 1))).bind fun e4=>bif (e3==e4) then ((iK s_2.length x2 (len s_2)).bind fun s5=>bZ (ρ:=(List aa)) (jO s_2 x2 (x2,1,s_2)) fun u15:Int×(List aa)=>(iK u15.2.length u15.1 (len u15.2)).bind fun s16=>(v8 u15.2 (0+Int.toNat u15.1) (Int.toNat (len u15.2) - Int.toNat u15.1) []).bind fun k17=>(iK k17.length 0 u15.1).bind fun s18=>(iO k17 (0+Int.toNat (0)) (Int.toNat u15.1 - Int.toNat (0))).bind fun p19=>some (.inl p19)) else (self (az (x2+1)))) else (some (.inr s_2))
def pM (s_2:List aa): Int→Option ((List aa)⊕(List aa)):=aM (kn s_2)
theorem xF (s_2:List aa): ∀a,Fin1 fun f=>kn s_2 f a:=by
 unfold kn
 repeat first|intro _|exact be|exact bF|apply bM|apply bx|apply bz|apply bD|apply bN
theorem CZ (s_2:List aa)(x:Int):pM s_2 x=kn s_2 (pM s_2) x:=bT (xF s_2) x
def zT (s_2:List aa):Option (List aa):=
 bif (decide ((len s_2)<2)) then (some s_2) else (bd (ρ:=(List aa)) (pM s_2 1) fun u20:(List aa)=>some u20)
def yR (i7:List aa):Option (List aa):=
 (tt i7).bind fun r2=>bif Nat.beq r2.length i7.length then ((zT r2).bind fun r4=>some r4) else none
def lT (c_1:Contract)(self:(Int×(List aa))→Option ((List aa)⊕(List aa)))(x2:Int×(List aa)):Option ((List aa)⊕(List aa)):=
 bif (decide (x2.1<(len c_1.Clauses))) then ((aP c_1.Clauses x2.1).bind fun e3=>(ix 16 x2.2 [e3.Action]).bind fun a4=>(RX e3.When a4).bind fun r5=>self ((az (x2.1+1)),r5)) else (some (.inr x2.2))
def oM (c_1:Contract): (Int×(List aa))→Option ((List aa)⊕(List aa)):=aM (lT c_1)
theorem ET (c_1:Contract): ∀a,Fin1 fun f=>lT c_1 f a:=by
 unfold lT
 repeat first|intro _|exact be|exact bF|apply bM|apply bx|apply bz|apply bD|apply bN
theorem G7 (c_1:Contract)(x:Int×(List aa)):oM c_1 x=lT c_1 (oM c_1) x:=bT (ET c_1) x
def sJ (c_1:Contract):Option (List aa):=
 bd (ρ:=(List aa)) (oM c_1 (0,[])) fun u6:(List aa)=>(yR u6).bind fun r7=>some r7
def lQ (c_1:Contract)(self:Int→Option (Bool⊕Unit))(x4:Int):Option (Bool⊕Unit):=
 bif (decide (x4<(len c_1.Clauses))) then ((JS c_1 x4).bind fun r5=>bif (!r5) then (some (.inl false)) else (self (az (x4+1)))) else (some (.inr ()))
def mO (c_1:Contract): Int→Option (Bool⊕Unit):=aM (lQ c_1)
theorem BA (c_1:Contract): ∀a,Fin1 fun f=>lQ c_1 f a:=by
 unfold lQ
 repeat first|intro _|exact be|exact bF|apply bM|apply bx|apply bz|apply bD|apply bN
theorem GU (c_1:Contract)(x:Int):mO c_1 x=lQ c_1 (mO c_1) x:=bT (BA c_1) x
def IZ (c_1:Contract):Option Bool:=
 (JP c_1.Parties).bind fun r2=>bd (ρ:=Bool) (bif (!r2) then (some (.inr true)) else ((ic (len c_1.Clauses) 1 12).bind fun r8=>some (.inr (!r8)))) fun u3:Bool=>bif u3 then (some false) else (bd (ρ:=Bool) (mO c_1 0) fun u6:Unit=>(sJ c_1).bind fun r7=>some (decide ((len r7)≤16)))
def lU (bW:List aa)(self:Int→Option (Bool⊕Unit))(x2:Int):Option (Bool⊕Unit):=
 bif (decide (x2<(len bW))) then ((aP bW x2).bind fun e3=>(rQ e3).bind fun r4=>bZ (ρ:=Bool) (bif (!r4) then (some (.inr true)) else (bZ (ρ:=Bool) (bif (decide (x2>0)) then ((aP bW (az (x2 - 1))).bind fun e7=>some (.inr (Op.bytesLess e3 e7||e3==e7))) else (some (.inr false))) fun u6:Bool=>some (.inr u6))) fun u5:Bool=>bif u5 then (some (.inl false)) else (self (az (x2+1)))) else (some (.inr ()))
def mV (bW:List aa): Int→Option (Bool⊕Unit):=aM (lU bW)
theorem EW (bW:List aa): ∀a,Fin1 fun f=>lU bW f a:=by
 unfold lU
 repeat first|intro _|exact be|exact bF|apply bM|apply bx|apply bz|apply bD|apply bN
theorem G8 (bW:List aa)(x:Int):mV bW x=lU bW (mV bW) x:=bT (EW bW) x
def JY (bW:List aa):Option Bool:=
 bd (ρ:=Bool) (mV bW 0) fun u8:Unit=>some (decide ((len bW)≤16))
def J0 (f_1:aa)(a_2:List aa):Option Bool:=
 (mP a_2 f_1).bind fun r3=>some (!r3)
def ml (s_1:List aa)(f_2:(List aa))(self:Int→Option (Int⊕Unit))(x3:Int):Option (Int⊕Unit):=
 bif (decide (x3<(len s_1))) then ((aP s_1 x3).bind fun e4=>(J0 e4 f_2).bind fun r5=>bif r5 then (some (.inl x3)) else (self (az (x3+1)))) else (some (.inr ()))
def se (s_1:List aa)(f_2:(List aa)): Int→Option (Int⊕Unit):=aM (ml s_1 f_2)
theorem xM (s_1:List aa)(f_2:(List aa)): ∀a,Fin1 fun f=>ml s_1 f_2 f a:=by
 unfold ml
 repeat first|intro _|exact be|exact bF|apply bM|apply bx|apply bz|apply bD|apply bN
theorem Nu (s_1:List aa)(f_2:(List aa))(x:Int):se s_1 f_2 x=ml s_1 f_2 (se s_1 f_2) x:=bT (xM s_1 f_2) x
def F4 (s_1:List aa)(f_2:(List aa)):Option Int:=
 bd (ρ:=Int) (se s_1 f_2 0) fun u6:Unit=>some (-1)
def FX (s_1:List aa)(f_2:(List aa)):Option Bool:=
 (F4 s_1 f_2).bind fun r3=>some (decide (r3≥0))
def qA (ar:List Int)(self:(Int×Int)→Option (Int⊕Int))(x2:Int×Int):Option (Int⊕Int):=
 bif (decide (x2.2<(len ar))) then ((aP ar x2.2).bind fun e3=>self ((az (x2.1+e3)),(az (x2.2+1)))) else (some (.inr x2.1))
def FR (ar:List Int): (Int×Int)→Option (Int⊕Int):=aM (qA ar)
theorem Lh (ar:List Int): ∀a,Fin1 fun f=>qA ar f a:=by
 unfold qA
 repeat first|intro _|exact be|exact bF|apply bM|apply bx|apply bz|apply bD|apply bN
def uV (ar:List Int):Option Int:=
 bd (ρ:=Int) (FR ar (0,0)) fun u4:Int=>some u4
def JW (x_1:Clause)(a_2:Contract)(a_3:Int):Option Bool:=
 (aP a_2.Clauses a_3).bind fun e4=>some (x_1.Repair==e4.Id)
def mg (s_1:List Clause)(f_2:Contract×Int)(self:Int→Option (Int⊕Unit))(x3:Int):Option (Int⊕Unit):=
 bif (decide (x3<(len s_1))) then ((aP s_1 x3).bind fun e4=>(JW e4 f_2.1 f_2.2).bind fun r5=>bif r5 then (some (.inl x3)) else (self (az (x3+1)))) else (some (.inr ()))
def rZ (s_1:List Clause)(f_2:Contract×Int): Int→Option (Int⊕Unit):=aM (mg s_1 f_2)
theorem xI (s_1:List Clause)(f_2:Contract×Int): ∀a,Fin1 fun f=>mg s_1 f_2 f a:=by
 unfold mg
 repeat first|intro _|exact be|exact bF|apply bM|apply bx|apply bz|apply bD|apply bN
theorem Np (s_1:List Clause)(f_2:Contract×Int)(x:Int):rZ s_1 f_2 x=mg s_1 f_2 (rZ s_1 f_2) x:=bT (xI s_1 f_2) x
def FZ (s_1:List Clause)(f_2:Contract×Int):Option Int:=
 bd (ρ:=Int) (rZ s_1 f_2 0) fun u6:Unit=>some (-1)
def FU (s_1:List Clause)(f_2:Contract×Int):Option Bool:=
 (FZ s_1 (f_2.1,f_2.2)).bind fun r3=>some (decide (r3≥0))
def JV (c_1:Contract)(i_2:Int):Option Bool:=
 (FU c_1.Clauses (c_1,i_2)).bind fun r3=>some r3
def Mw (ja:Duty)(a_2:Duty):Option Bool:=
 some (ja.Clause==a_2.Clause)
def mi (s_1:List Duty)(f_2:Duty)(self:Int→Option (Int⊕Unit))(x3:Int):Option (Int⊕Unit):=
 bif (decide (x3<(len s_1))) then ((aP s_1 x3).bind fun e4=>(Mw e4 f_2).bind fun r5=>bif r5 then (some (.inl x3)) else (self (az (x3+1)))) else (some (.inr ()))
def sb (s_1:List Duty)(f_2:Duty): Int→Option (Int⊕Unit):=aM (mi s_1 f_2)
theorem xK (s_1:List Duty)(f_2:Duty): ∀a,Fin1 fun f=>mi s_1 f_2 f a:=by
 unfold mi
 repeat first|intro _|exact be|exact bF|apply bM|apply bx|apply bz|apply bD|apply bN
theorem Ns (s_1:List Duty)(f_2:Duty)(x:Int):sb s_1 f_2 x=mi s_1 f_2 (sb s_1 f_2) x:=bT (xK s_1 f_2) x
def F2 (s_1:List Duty)(f_2:Duty):Option Int:=
 bd (ρ:=Int) (sb s_1 f_2 0) fun u6:Unit=>some (-1)
def FV (s_1:List Duty)(f_2:Duty):Option Bool:=
 (F2 s_1 f_2).bind fun r3=>some (decide (r3≥0))
def JX (c_1:Contract)(s_2:State)(i_3:Int):Option Bool:=
 (aP s_2.Duties i_3).bind fun e4=>(ic e4.Clause 0 (az ((len c_1.Clauses) - 1))).bind fun r5=>bd (ρ:=Bool) (bif (!r5) then (some (.inr true)) else ((aP c_1.Clauses e4.Clause).bind fun e18=>bZ (ρ:=Bool) (bif (e18.Kind != 1) then (some (.inr true)) else ((ic e4.Since 0 s_2.Day).bind fun r20=>some (.inr (!r20)))) fun u19:Bool=>some (.inr u19))) fun u6:Bool=>bif u6 then (some false) else ((aP c_1.Clauses e4.Clause).bind fun e7=>bd (ρ:=Bool) (bif (e4.Due != (az (e4.Since+e7.Within))) then (some (.inr true)) else ((nD e4.Due).bind fun r14=>bZ (ρ:=Bool) (bif (!r14) then (some (.inr true)) else (bZ (ρ:=Bool) (bif (decide (i_3>0)) then ((aP s_2.Duties (az (i_3 - 1))).bind fun e17=>some (.inr (decide (e4.Since<e17.Since)))) else (some (.inr false))) fun u16:Bool=>some (.inr u16))) fun u15:Bool=>some (.inr u15))) fun u8:Bool=>bif u8 then (some false) else ((JV c_1 e4.Clause).bind fun r9=>bd (ρ:=Bool) (bif (!r9) then ((ph s_2.Duties 0 i_3).bind fun s12=>(FV s12 e4).bind fun r13=>some (.inr r13)) else (some (.inr false))) fun u10:Bool=>bif u10 then (some false) else (bif (e4.Status==1) then (cT (bif (decide (e4.Due≥s_2.Day)) then (!s_2.Over) else false) fun u11:Bool=>some u11) else (bif (e4.Status==2) then (some true) else (bif (e4.Status==3) then (some (decide (e4.Due<s_2.Day))) else (bif (e4.Status==4) then (some s_2.Over) else (some false)))))))
def Mv (x_1:Int):Option Bool:=
 (ic x_1 (-1000000000) 1000000000).bind fun r2=>some r2
def J1 (b_1:Int):Option Bool:=
 (Mv b_1).bind fun r2=>some (!r2)
def mj (s_1:List Int)(f_2:Unit)(self:Int→Option (Int⊕Unit))(x3:Int):Option (Int⊕Unit):=
 bif (decide (x3<(len s_1))) then ((aP s_1 x3).bind fun e4=>(J1 e4).bind fun r5=>bif r5 then (some (.inl x3)) else (self (az (x3+1)))) else (some (.inr ()))
def sd (s_1:List Int)(f_2:Unit): Int→Option (Int⊕Unit):=aM (mj s_1 f_2)
theorem xL (s_1:List Int)(f_2:Unit): ∀a,Fin1 fun f=>mj s_1 f_2 f a:=by
 unfold mj
 repeat first|intro _|exact be|exact bF|apply bM|apply bx|apply bz|apply bD|apply bN
theorem Nt (s_1:List Int)(f_2:Unit)(x:Int):sd s_1 f_2 x=mj s_1 f_2 (sd s_1 f_2) x:=bT (xL s_1 f_2) x
def F3 (s_1:List Int)(f_2:Unit):Option Int:=
 bd (ρ:=Int) (sd s_1 f_2 0) fun u6:Unit=>some (-1)
def FW (s_1:List Int)(f_2:Unit):Option Bool:=
 (F3 s_1 ()).bind fun r3=>some (decide (r3≥0))
def lV (c_1:Contract)(s_2:State)(self:Int→Option (Bool⊕Unit))(x7:Int):Option (Bool⊕Unit):=
 bif (decide (x7<(len s_2.Duties))) then ((JX c_1 s_2 x7).bind fun r8=>bif (!r8) then (some (.inl false)) else (self (az (x7+1)))) else (some (.inr ()))
def oO (c_1:Contract)(s_2:State): Int→Option (Bool⊕Unit):=aM (lV c_1 s_2)
theorem EX (c_1:Contract)(s_2:State): ∀a,Fin1 fun f=>lV c_1 s_2 f a:=by
 unfold lV
 repeat first|intro _|exact be|exact bF|apply bM|apply bx|apply bz|apply bD|apply bN
theorem G9 (c_1:Contract)(s_2:State)(x:Int):oO c_1 s_2 x=lV c_1 s_2 (oO c_1 s_2) x:=bT (EX c_1 s_2) x
def JZ (c_1:Contract)(s_2:State):Option Bool:=
 (sJ c_1).bind fun r3=>(nD s_2.Day).bind fun r4=>bd (ρ:=Bool) (bif (!r4) then (some (.inr true)) else ((JY s_2.Facts).bind fun r13=>bZ (ρ:=Bool) (bif (!r13) then (some (.inr true)) else ((FX s_2.Facts r3).bind fun r15=>some (.inr r15))) fun u14:Bool=>some (.inr u14))) fun u5:Bool=>bif u5 then (some false) else (bd (ρ:=Bool) (bif (decide ((len s_2.Duties)>24)) then (some (.inr true)) else (bZ (ρ:=Bool) (bif ((len s_2.Balances) != (len c_1.Parties)) then (some (.inr true)) else ((uV s_2.Balances).bind fun r12=>some (.inr (r12 != 0)))) fun u11:Bool=>some (.inr u11))) fun u6:Bool=>bif u6 then (some false) else (bd (ρ:=Bool) (oO c_1 s_2 0) fun u9:Unit=>(FW s_2.Balances ()).bind fun r10=>some (!r10)))
def GY (c_1:Contract)(s_2:State):Option Bool:=
 (IZ c_1).bind fun r3=>bd (ρ:=Bool) (bif r3 then ((JZ c_1 s_2).bind fun r5=>some (.inr r5)) else (some (.inr false))) fun u4:Bool=>some u4
def JQ (c_1:Contract)(s_2:State)(aE:Int)(aA:aa):Option Bool:=
 (GY c_1 s_2).bind fun r5=>bd (ρ:=Bool) (bif r5 then (bZ (ρ:=Bool) (bif (!s_2.Over) then ((ic aE 0 (az ((len c_1.Parties) - 1))).bind fun r8=>bZ (ρ:=Bool) (bif r8 then ((rQ aA).bind fun r10=>some (.inr r10)) else (some (.inr false))) fun u9:Bool=>some (.inr u9)) else (some (.inr false))) fun u7:Bool=>some (.inr u7)) else (some (.inr false))) fun u6:Bool=>some u6
def zR (s_1:List aa):Option (List aa):=
 wq s_1 (some []) ((ix 16 ([]:List aa) s_1).bind fun a2=>some a2)
def zN (s_1:List Duty):Option (List Duty):=
 wq s_1 (some []) ((ix 32 ([]:List Duty) s_1).bind fun a2=>some a2)
def zP (s_1:List Int):Option (List Int):=
 wq s_1 (some []) ((ix 8 ([]:List Int) s_1).bind fun a2=>some a2)
def yP (s_1:State):Option State:=
 (zR s_1.Facts).bind fun r2=>(zN s_1.Duties).bind fun r3=>(zP s_1.Balances).bind fun r4=>some (State.mk s_1.Day r2 r3 r4 s_1.Over)
def J2 (c_1:Contract)(s_2:State):Option machine:=
 (yP s_2).bind fun r3=>(sJ c_1).bind fun r4=>some (machine.mk c_1 r3 r4 [] false)
def wV (cV:(Condition×(List aa)×Int)→Option Bool)(c_1:Condition)(bo:List aa)(b6:Int):Option Bool:=
 bif (c_1.Op==2) then ((mP bo c_1.Name).bind fun r4=>some r4) else (bif (c_1.Op==3) then (some (decide (b6≥c_1.Day))) else (bif (c_1.Op==4) then ((aP c_1.Parts 0).bind fun e5=>(cV (e5,bo,b6)).bind fun r6=>some (!r6)) else (bif (c_1.Op==5) then ((aP c_1.Parts 0).bind fun e7=>(cV (e7,bo,b6)).bind fun r8=>bd (ρ:=Bool) (bif r8 then ((aP c_1.Parts 1).bind fun e10=>(cV (e10,bo,b6)).bind fun r11=>some (.inr r11)) else (some (.inr false))) fun u9:Bool=>some u9) else (bif (c_1.Op==6) then ((aP c_1.Parts 0).bind fun e12=>(cV (e12,bo,b6)).bind fun r13=>bd (ρ:=Bool) (bif r13 then (some (.inr true)) else ((aP c_1.Parts 1).bind fun e15=>(cV (e15,bo,b6)).bind fun r16=>some (.inr r16))) fun u14:Bool=>some u14) else (some true)))))
def mU (cV:(Condition×(List aa)×Int)→Option Bool)(x:Condition×(List aa)×Int):Option Bool:=wV cV x.1 x.2.1 x.2.2
def JR (c_1:Condition)(bo:List aa)(b6:Int):Option Bool:=aM mU (c_1,bo,b6)
theorem Xd:∀x,Fin1 fun cV=>mU cV x:=by
 unfold mU wV
 repeat first|intro _|exact be|exact bF|apply bM|apply bx|apply bz|apply bD|apply bN
theorem aap (c_1:Condition)(bo:List aa)(b6:Int):JR c_1 bo b6=wV (aM mU) c_1 bo b6:=bT Xd (c_1,bo,b6)
def FQ (m_1:machine)(x_2:Clause):Option Bool:=
 (JR x_2.When m_1.f_s.Facts m_1.f_s.Day).bind fun r3=>some r3
def yM (x_1:Clause)(a_2:Int)(a_3:Int)(a_4:aa)(a_5:machine):Option Bool:=
 bd (ρ:=Bool) (bif (x_1.Kind==a_2) then (bZ (ρ:=Bool) (bif (x_1.Party==a_3) then (bZ (ρ:=Bool) (bif (x_1.Action==a_4) then ((FQ a_5 x_1).bind fun r9=>some (.inr r9)) else (some (.inr false))) fun u8:Bool=>some (.inr u8)) else (some (.inr false))) fun u7:Bool=>some (.inr u7)) else (some (.inr false))) fun u6:Bool=>some u6
def mh (s_1:List Clause)(f_2:Int×Int×aa×machine)(self:Int→Option (Int⊕Unit))(x3:Int):Option (Int⊕Unit):=
 bif (decide (x3<(len s_1))) then ((aP s_1 x3).bind fun e4=>(yM e4 f_2.1 f_2.2.1 f_2.2.2.1 f_2.2.2.2).bind fun r5=>bif r5 then (some (.inl x3)) else (self (az (x3+1)))) else (some (.inr ()))
def sa (s_1:List Clause)(f_2:Int×Int×aa×machine): Int→Option (Int⊕Unit):=aM (mh s_1 f_2)
theorem xJ (s_1:List Clause)(f_2:Int×Int×aa×machine): ∀a,Fin1 fun f=>mh s_1 f_2 f a:=by
 unfold mh
 repeat first|intro _|exact be|exact bF|apply bM|apply bx|apply bz|apply bD|apply bN
theorem Nq (s_1:List Clause)(f_2:Int×Int×aa×machine)(x:Int):sa s_1 f_2 x=mh s_1 f_2 (sa s_1 f_2) x:=bT (xJ s_1 f_2) x
def F0 (s_1:List Clause)(f_2:Int×Int×aa×machine):Option Int:=
 bd (ρ:=Int) (sa s_1 f_2 0) fun u6:Unit=>some (-1)
def J4 (m_1:machine)(cU:Int)(aE:Int)(aA:aa):Option Int:=
 (F0 m_1.f_c.Clauses (cU,aE,aA,m_1)).bind fun r5=>some r5
def JJ (c_1:Contract)(s_2:State)(aE:Int)(aA:aa):Option (Int×Bool):=
 (JQ c_1 s_2 aE aA).bind fun r5=>bif (!r5) then (some (0,false)) else ((J2 c_1 s_2).bind fun r6=>(J4 r6 4 aE aA).bind fun r7=>some (r7,true))
def l8 (a_1:List aa)(b_2:List aa)(self:Int→Option (Bool⊕Unit))(x3:Int):Option (Bool⊕Unit):=
 bif (decide (x3<(len a_1))) then ((aP a_1 x3).bind fun e4=>(aP b_2 x3).bind fun e5=>bif (!(e4==e5)) then (some (.inl false)) else (self (az (x3+1)))) else (some (.inr ()))
def rM (a_1:List aa)(b_2:List aa): Int→Option (Bool⊕Unit):=aM (l8 a_1 b_2)
theorem xu (a_1:List aa)(b_2:List aa): ∀a,Fin1 fun f=>l8 a_1 b_2 f a:=by
 unfold l8
 repeat first|intro _|exact be|exact bF|apply bM|apply bx|apply bz|apply bD|apply bN
theorem Nd (a_1:List aa)(b_2:List aa)(x:Int):rM a_1 b_2 x=l8 a_1 b_2 (rM a_1 b_2) x:=bT (xu a_1 b_2) x
def vb (a_1:List aa)(b_2:List aa):Option Bool:=
 bif ((len a_1) != (len b_2)) then (some false) else (bd (ρ:=Bool) (rM a_1 b_2 0) fun u6:Unit=>some true)
def ki (bf:(Condition×Condition)→Option Bool)(a_1:List Condition)(b_2:List Condition)(self:Int→Option (Bool⊕Unit))(x3:Int):Option (Bool⊕Unit):=
 bif (decide (x3<(len a_1))) then ((aP a_1 x3).bind fun e4=>(aP b_2 x3).bind fun e5=>(bf (e4,e5)).bind fun r6=>bif (!r6) then (some (.inl false)) else (self (az (x3+1)))) else (some (.inr ()))
def pJ (bf:(Condition×Condition)→Option Bool)(a_1:List Condition)(b_2:List Condition): Int→Option (Bool⊕Unit):=aM (ki bf a_1 b_2)
theorem xq (bf:(Condition×Condition)→Option Bool)(a_1:List Condition)(b_2:List Condition): ∀a,Fin1 fun f=>ki bf a_1 b_2 f a:=by
 unfold ki
 repeat first|intro _|exact be|exact bF|apply bM|apply bx|apply bz|apply bD|apply bN
theorem Na (bf:(Condition×Condition)→Option Bool)(a_1:List Condition)(b_2:List Condition)(x:Int):pJ bf a_1 b_2 x=ki bf a_1 b_2 (pJ bf a_1 b_2) x:=bT (xq bf a_1 b_2) x
def uZ (bf:(Condition×Condition)→Option Bool)(a_1:List Condition)(b_2:List Condition):Option Bool:=
 bif ((len a_1) != (len b_2)) then (some false) else (bd (ρ:=Bool) (pJ bf a_1 b_2 0) fun u7:Unit=>some true)
def rJ (bf:(Condition×Condition)→Option Bool)(a_1:Condition)(b_2:Condition):Option Bool:=
 bif (a_1.Op != b_2.Op) then (some false) else (bif (!(a_1.Name==b_2.Name)) then (some false) else (bif (a_1.Day != b_2.Day) then (some false) else ((uZ bf a_1.Parts b_2.Parts).bind fun r3=>bif (!r3) then (some false) else (some true))))
def oE (bf:(Condition×Condition)→Option Bool)(x:Condition×Condition):Option Bool:=rJ bf x.1 x.2
def yZ (a_1:Condition)(b_2:Condition):Option Bool:=aM oE (a_1,b_2)
theorem Tx:∀x,Fin1 fun bf=>oE bf x:=by
 unfold oE rJ
 repeat first|intro _|exact be|exact bF|exact jU|exact mF|exact iz|exact kH|exact jk|exact jl|apply bM|apply bx|apply bz|apply bD|apply bN|apply qN|unfold uZ|unfold pJ|unfold ki
theorem WT (a_1:Condition)(b_2:Condition):yZ a_1 b_2=rJ (aM oE) a_1 b_2:=bT Tx (a_1,b_2)
def uW (a_1:Clause)(b_2:Clause):Option Bool:=
 bif (!(a_1.Id==b_2.Id)) then (some false) else (bif (a_1.Kind != b_2.Kind) then (some false) else (bif (a_1.Party != b_2.Party) then (some false) else (bif (!(a_1.Action==b_2.Action)) then (some false) else (bif (a_1.Other != b_2.Other) then (some false) else (bif (a_1.Amount != b_2.Amount) then (some false) else ((yZ a_1.When b_2.When).bind fun r3=>bif (!r3) then (some false) else (bif (a_1.Within != b_2.Within) then (some false) else (bif (!(a_1.Repair==b_2.Repair)) then (some false) else (some true)))))))))
def l5 (a_1:List Clause)(b_2:List Clause)(self:Int→Option (Bool⊕Unit))(x3:Int):Option (Bool⊕Unit):=
 bif (decide (x3<(len a_1))) then ((aP a_1 x3).bind fun e4=>(aP b_2 x3).bind fun e5=>(uW e4 e5).bind fun r6=>bif (!r6) then (some (.inl false)) else (self (az (x3+1)))) else (some (.inr ()))
def rH (a_1:List Clause)(b_2:List Clause): Int→Option (Bool⊕Unit):=aM (l5 a_1 b_2)
theorem xp (a_1:List Clause)(b_2:List Clause): ∀a,Fin1 fun f=>l5 a_1 b_2 f a:=by
 unfold l5
 repeat first|intro _|exact be|exact bF|apply bM|apply bx|apply bz|apply bD|apply bN
theorem M9 (a_1:List Clause)(b_2:List Clause)(x:Int):rH a_1 b_2 x=l5 a_1 b_2 (rH a_1 b_2) x:=bT (xp a_1 b_2) x
def yX (a_1:List Clause)(b_2:List Clause):Option Bool:=
 bif ((len a_1) != (len b_2)) then (some false) else (bd (ρ:=Bool) (rH a_1 b_2 0) fun u7:Unit=>some true)
def zc (a_1:Contract)(b_2:Contract):Option Bool:=
 (vb a_1.Parties b_2.Parties).bind fun r3=>bif (!r3) then (some false) else ((yX a_1.Clauses b_2.Clauses).bind fun r4=>bif (!r4) then (some false) else (some true))
def va (a_1:Duty)(b_2:Duty):Option Bool:=
 bif (a_1.Clause != b_2.Clause) then (some false) else (bif (a_1.Since != b_2.Since) then (some false) else (bif (a_1.Due != b_2.Due) then (some false) else (bif (a_1.Status != b_2.Status) then (some false) else (some true))))
def l6 (a_1:List Duty)(b_2:List Duty)(self:Int→Option (Bool⊕Unit))(x3:Int):Option (Bool⊕Unit):=
 bif (decide (x3<(len a_1))) then ((aP a_1 x3).bind fun e4=>(aP b_2 x3).bind fun e5=>(va e4 e5).bind fun r6=>bif (!r6) then (some (.inl false)) else (self (az (x3+1)))) else (some (.inr ()))
def rK (a_1:List Duty)(b_2:List Duty): Int→Option (Bool⊕Unit):=aM (l6 a_1 b_2)
theorem xr (a_1:List Duty)(b_2:List Duty): ∀a,Fin1 fun f=>l6 a_1 b_2 f a:=by
 unfold l6
 repeat first|intro _|exact be|exact bF|apply bM|apply bx|apply bz|apply bD|apply bN
theorem Nb (a_1:List Duty)(b_2:List Duty)(x:Int):rK a_1 b_2 x=l6 a_1 b_2 (rK a_1 b_2) x:=bT (xr a_1 b_2) x
def zf (a_1:List Duty)(b_2:List Duty):Option Bool:=
 bif ((len a_1) != (len b_2)) then (some false) else (bd (ρ:=Bool) (rK a_1 b_2 0) fun u7:Unit=>some true)
def l7 (a_1:List Int)(b_2:List Int)(self:Int→Option (Bool⊕Unit))(x3:Int):Option (Bool⊕Unit):=
 bif (decide (x3<(len a_1))) then ((aP a_1 x3).bind fun e4=>(aP b_2 x3).bind fun e5=>bif (e4 != e5) then (some (.inl false)) else (self (az (x3+1)))) else (some (.inr ()))
def rL (a_1:List Int)(b_2:List Int): Int→Option (Bool⊕Unit):=aM (l7 a_1 b_2)
theorem xt (a_1:List Int)(b_2:List Int): ∀a,Fin1 fun f=>l7 a_1 b_2 f a:=by
 unfold l7
 repeat first|intro _|exact be|exact bF|apply bM|apply bx|apply bz|apply bD|apply bN
theorem Nc (a_1:List Int)(b_2:List Int)(x:Int):rL a_1 b_2 x=l7 a_1 b_2 (rL a_1 b_2) x:=bT (xt a_1 b_2) x
def zh (a_1:List Int)(b_2:List Int):Option Bool:=
 bif ((len a_1) != (len b_2)) then (some false) else (bd (ρ:=Bool) (rL a_1 b_2 0) fun u6:Unit=>some true)
def zj (a_1:State)(b_2:State):Option Bool:=
 bif (a_1.Day != b_2.Day) then (some false) else ((vb a_1.Facts b_2.Facts).bind fun r3=>bif (!r3) then (some false) else ((zf a_1.Duties b_2.Duties).bind fun r4=>bif (!r4) then (some false) else ((zh a_1.Balances b_2.Balances).bind fun r5=>bif (!r5) then (some false) else (bif (!(a_1.Over==b_2.Over)) then (some false) else (some true)))))
def fb (js:Contract)(jt:State)(gc:Int)(eR:aa):Option Bool:=
 bif (decide ((len eR)>1048576)) then (some true) else ((zq js 1048576).bind fun r5=>bif (decide (r5<0)) then (some true) else ((zy jt r5).bind fun r6=>bif (decide (r6<0)) then (some true) else ((tx js).bind fun r7=>(tz jt).bind fun r8=>(Ai r7 r8 gc eR).bind fun r9=>(tx js).bind fun r10=>(tz jt).bind fun r11=>(JJ r10 r11 gc eR).bind fun r12=>cT (bif (r12.1 != r9.1) then true else (!(r12.2==r9.2))) fun u13:Bool=>bif u13 then (some false) else ((tx js).bind fun r14=>(zc r10 r14).bind fun r15=>bif (!r15) then (some false) else ((tz jt).bind fun r16=>(zj r11 r16).bind fun r17=>bif (!r17) then (some false) else (some true))))))
end
end Go.Ln
