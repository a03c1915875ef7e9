/-
  What each function computes.
-/
import Derived.Test.YtcfddlacocdpoaaGreatDoorFnExactActionStatusLnC
set_option maxHeartbeats 4000000
set_option linter.unusedVariables false
set_option linter.unusedSimpArgs false
set_option maxRecDepth 100000
namespace Go.Ln
open Go
noncomputable section
structure Condition where
 Op:Int
 Name:ac
 Day:Int
 Parts:List Condition
mutual
def aB:Condition→V
 | ⟨a0,a1,a2,a3⟩=>.agg [I a0,str a1,I a2,.isl false (dY a3)]
def dY:List Condition→List V
 | []=>[]
 | x::xs=>aB x::dY xs
end
theorem pG:∀xs,dY xs=xs.map aB
 | []=>by simp[dY]
 | x::xs=>by simp[dY,pG xs]
def bD (x:Condition):V:=.agg [I x.Op,str x.Name,I x.Day,.isl false (x.Parts.map aB)]
abbrev ai (x:Condition):V:=.agg [I x.Op,str x.Name,I x.Day,.isl false (x.Parts.map aB)]
theorem bU (x:Condition):aB x=bD x:=by cases x;simp only[aB,bD,pG]
mutual
theorem f6:∀(a b:Condition),aB a=aB b→a=b
 | ⟨a0,a1,a2,a3⟩,⟨b0,b1,b2,b3⟩,h=>by
  simp only[aB] at h
  have k0:=V.agg.inj h
  obtain⟨h0,k1⟩:=List.cons.inj k0
  obtain rfl:=bd a0 b0 h0
  obtain⟨h1,k2⟩:=List.cons.inj k1
  obtain rfl:=bx a1 b1 h1
  obtain⟨h2,k3⟩:=List.cons.inj k2
  obtain rfl:=bd a2 b2 h2
  obtain⟨h3,k4⟩:=List.cons.inj k3
  have e3:dY a3=dY b3:=by simpa using h3
  obtain rfl:=pF a3 b3 e3
  rfl
theorem pF:∀(a b:List Condition),dY a=dY b→a=b
 | [],[],_=>rfl
 | [],_::_,h=>by simp[dY] at h
 | _::_,[],h=>by simp[dY] at h
 | x::xs,y::ys,h=>by
  simp only[dY,List.cons.injEq] at h
  rw[f6 x y h.1,pF xs ys h.2]
end
theorem dt (a b:Condition)(h:bD a=bD b):a=b:=f6 a b (by rw[bU,bU,h])
mutual
def aF:Condition→V
 | ⟨a0,a1,a2,a3⟩=>.agg [I a0,str a1,I a2,.usl 4 (du a3)]
def du:List Condition→List V
 | []=>[]
 | x::xs=>aF x::du xs
end
theorem pJ:∀xs,du xs=xs.map aF
 | []=>by simp[du]
 | x::xs=>by simp[du,pJ xs]
def tt (x:Condition):V:=.agg [I x.Op,str x.Name,I x.Day,.usl 4 (x.Parts.map aF)]
abbrev qX (x:Condition):V:=.agg [I x.Op,str x.Name,I x.Day,.usl 4 (x.Parts.map aF)]
theorem mY (x:Condition):aF x=tt x:=by cases x;simp only[aF,tt,pJ]
mutual
theorem yS:∀(a b:Condition),aF a=aF b→a=b
 | ⟨a0,a1,a2,a3⟩,⟨b0,b1,b2,b3⟩,h=>by
  simp only[aF] at h
  have k0:=V.agg.inj h
  obtain⟨h0,k1⟩:=List.cons.inj k0
  obtain rfl:=bd a0 b0 h0
  obtain⟨h1,k2⟩:=List.cons.inj k1
  obtain rfl:=bx a1 b1 h1
  obtain⟨h2,k3⟩:=List.cons.inj k2
  obtain rfl:=bd a2 b2 h2
  obtain⟨h3,k4⟩:=List.cons.inj k3
  have e3:du a3=du b3:=by simpa using h3
  obtain rfl:=pI a3 b3 e3
  rfl
theorem pI:∀(a b:List Condition),du a=du b→a=b
 | [],[],_=>rfl
 | [],_::_,h=>by simp[du] at h
 | _::_,[],h=>by simp[du] at h
 | x::xs,y::ys,h=>by
  simp only[du,List.cons.injEq] at h
  rw[yS x y h.1,pI xs ys h.2]
end
mutual
theorem qL:∀x:Condition,eN (aF x)=aB x
 | ⟨a0,a1,a2,a3⟩=>by simp[aF,aB,eN,gf,str,pH]
theorem pH:∀xs:List Condition,gf (du xs)=dY xs
 | []=>by simp[du,dY,gf]
 | x::xs=>by simp[du,dY,gf,qL x,pH xs]
end
mutual
theorem xn:∀x:Condition,dF (aF x)=false
 | ⟨a0,a1,a2,a3⟩=>by simp[aF,dF,d9,str,ph]
theorem ph:∀xs:List Condition,d9 (du xs)=false
 | []=>by simp[du,d9]
 | x::xs=>by simp[du,d9,xn x,ph xs]
end
structure Clause where
 Id:ac
 Kind:Int
 Party:Int
 Action:ac
 Other:Int
 Amount:Int
 When:Condition
 Within:Int
 Repair:ac
def ao (x:Clause):V:=.agg [str x.Id,I x.Kind,I x.Party,str x.Action,I x.Other,I x.Amount,I x.When.Op,str x.When.Name,I x.When.Day,.isl false (x.When.Parts.map aB),I x.Within,str x.Repair]
abbrev ap (x:Clause):V:=.agg [str x.Id,I x.Kind,I x.Party,str x.Action,I x.Other,I x.Amount,I x.When.Op,str x.When.Name,I x.When.Day,.isl false (x.When.Parts.map aB),I x.Within,str x.Repair]
theorem cG (a b:Clause)(h:ao a=ao b):a=b:=by
 obtain⟨p0,p1,p2,p3,p4,p5,⟨p6,p7,p8,p9⟩,p10,p11⟩:=a
 obtain⟨q0,q1,q2,q3,q4,q5,⟨q6,q7,q8,q9⟩,q10,q11⟩:=b
 replace h:=V.agg.inj h
 obtain⟨h0,h⟩:=List.cons.inj h
 obtain rfl:=bx p0 q0 h0
 obtain⟨h1,h⟩:=List.cons.inj h
 obtain rfl:=bd p1 q1 h1
 obtain⟨h2,h⟩:=List.cons.inj h
 obtain rfl:=bd p2 q2 h2
 obtain⟨h3,h⟩:=List.cons.inj h
 obtain rfl:=bx p3 q3 h3
 obtain⟨h4,h⟩:=List.cons.inj h
 obtain rfl:=bd p4 q4 h4
 obtain⟨h5,h⟩:=List.cons.inj h
 obtain rfl:=bd p5 q5 h5
 obtain⟨h6,h⟩:=List.cons.inj h
 obtain rfl:=bd p6 q6 h6
 obtain⟨h7,h⟩:=List.cons.inj h
 obtain rfl:=bx p7 q7 h7
 obtain⟨h8,h⟩:=List.cons.inj h
 obtain rfl:=bd p8 q8 h8
 obtain⟨h9,h⟩:=List.cons.inj h
 obtain rfl:=(bC f6) p9 q9 h9
 obtain⟨h10,h⟩:=List.cons.inj h
 obtain rfl:=bd p10 q10 h10
 obtain⟨h11,h⟩:=List.cons.inj h
 obtain rfl:=bx p11 q11 h11
 rfl
def bh (x:Clause):V:=.agg [str x.Id,I x.Kind,I x.Party,str x.Action,I x.Other,I x.Amount,I x.When.Op,str x.When.Name,I x.When.Day,.usl 4 (x.When.Parts.map aF),I x.Within,str x.Repair]
abbrev vM (x:Clause):V:=.agg [str x.Id,I x.Kind,I x.Party,str x.Action,I x.Other,I x.Amount,I x.When.Op,str x.When.Name,I x.When.Day,.usl 4 (x.When.Parts.map aF),I x.Within,str x.Repair]
theorem gQ (x:Clause):eN (bh x)=ao x:=M1 (dN rfl (dN rfl (dN rfl (dN rfl (dN rfl (dN rfl (dN rfl (dN rfl (dN rfl (dN (jH (bX qL)) (dN rfl (dN rfl rfl))))))))))))
structure Contract where
 Parties:List ac
 Clauses:List Clause
def aV (x:Contract):V:=.agg [.isl false (x.Parties.map str),.isl false (x.Clauses.map ao)]
abbrev aa (x:Contract):V:=.agg [.isl false (x.Parties.map str),.isl false (x.Clauses.map ao)]
theorem bc (a b:Contract)(h:aV a=aV b):a=b:=by
 obtain⟨p0,p1⟩:=a
 obtain⟨q0,q1⟩:=b
 replace h:=V.agg.inj h
 obtain⟨h0,h⟩:=List.cons.inj h
 obtain rfl:=(bC bx) p0 q0 h0
 obtain⟨h1,h⟩:=List.cons.inj h
 obtain rfl:=(bC cG) p1 q1 h1
 rfl
structure Duty where
 Clause:Int
 Since:Int
 Due:Int
 Status:Int
def ah (x:Duty):V:=.agg [I x.Clause,I x.Since,I x.Due,I x.Status]
abbrev ahg (x:Duty):V:=.agg [I x.Clause,I x.Since,I x.Due,I x.Status]
theorem vv (x:Duty):(cells (ah x)).length=4∧(cells (ah x)).all fI=true:=⟨rfl,rfl⟩
theorem gk (x:Duty):eN (ah x)=ah x:=rfl
theorem ec (a b:Duty)(h:ah a=ah b):a=b:=by
 obtain⟨p0,p1,p2,p3⟩:=a
 obtain⟨q0,q1,q2,q3⟩:=b
 replace h:=V.agg.inj h
 obtain⟨h0,h⟩:=List.cons.inj h
 obtain rfl:=bd p0 q0 h0
 obtain⟨h1,h⟩:=List.cons.inj h
 obtain rfl:=bd p1 q1 h1
 obtain⟨h2,h⟩:=List.cons.inj h
 obtain rfl:=bd p2 q2 h2
 obtain⟨h3,h⟩:=List.cons.inj h
 obtain rfl:=bd p3 q3 h3
 rfl
structure State where
 Day:Int
 Facts:List ac
 Duties:List Duty
 Balances:List Int
 Over:Bool
def bT (x:State):V:=.agg [I x.Day,.isl false (x.Facts.map str),.isl false (x.Duties.map ah),.isl false (x.Balances.map I),B x.Over]
abbrev ae (x:State):V:=.agg [I x.Day,.isl false (x.Facts.map str),.isl false (x.Duties.map ah),.isl false (x.Balances.map I),B x.Over]
theorem cb (a b:State)(h:bT a=bT b):a=b:=by
 obtain⟨p0,p1,p2,p3,p4⟩:=a
 obtain⟨q0,q1,q2,q3,q4⟩:=b
 replace h:=V.agg.inj h
 obtain⟨h0,h⟩:=List.cons.inj h
 obtain rfl:=bd p0 q0 h0
 obtain⟨h1,h⟩:=List.cons.inj h
 obtain rfl:=(bC bx) p1 q1 h1
 obtain⟨h2,h⟩:=List.cons.inj h
 obtain rfl:=(bC ec) p2 q2 h2
 obtain⟨h3,h⟩:=List.cons.inj h
 obtain rfl:=(bC bd) p3 q3 h3
 obtain⟨h4,h⟩:=List.cons.inj h
 obtain rfl:=EB p4 q4 h4
 rfl
structure l9Run where
 f_c:Contract
 f_s:State
 f_bad:Bool
def dA (x:l9Run):V:=.agg [.isl false (x.f_c.Parties.map str),.isl false (x.f_c.Clauses.map ao),I x.f_s.Day,.isl false (x.f_s.Facts.map str),.isl false (x.f_s.Duties.map ah),.isl false (x.f_s.Balances.map I),B x.f_s.Over,B x.f_bad]
abbrev ad9 (x:l9Run):V:=.agg [.isl false (x.f_c.Parties.map str),.isl false (x.f_c.Clauses.map ao),I x.f_s.Day,.isl false (x.f_s.Facts.map str),.isl false (x.f_s.Duties.map ah),.isl false (x.f_s.Balances.map I),B x.f_s.Over,B x.f_bad]
theorem qc (a b:l9Run)(h:dA a=dA b):a=b:=by
 obtain⟨⟨p0,p1⟩,⟨p2,p3,p4,p5,p6⟩,p7⟩:=a
 obtain⟨⟨q0,q1⟩,⟨q2,q3,q4,q5,q6⟩,q7⟩:=b
 replace h:=V.agg.inj h
 obtain⟨h0,h⟩:=List.cons.inj h
 obtain rfl:=(bC bx) p0 q0 h0
 obtain⟨h1,h⟩:=List.cons.inj h
 obtain rfl:=(bC cG) p1 q1 h1
 obtain⟨h2,h⟩:=List.cons.inj h
 obtain rfl:=bd p2 q2 h2
 obtain⟨h3,h⟩:=List.cons.inj h
 obtain rfl:=(bC bx) p3 q3 h3
 obtain⟨h4,h⟩:=List.cons.inj h
 obtain rfl:=(bC ec) p4 q4 h4
 obtain⟨h5,h⟩:=List.cons.inj h
 obtain rfl:=(bC bd) p5 q5 h5
 obtain⟨h6,h⟩:=List.cons.inj h
 obtain rfl:=EB p6 q6 h6
 obtain⟨h7,h⟩:=List.cons.inj h
 obtain rfl:=EB p7 q7 h7
 rfl
structure Entry where
 Day:Int
 Kind:Int
 Clause:Int
 Party:Int
def jE (x:Entry):V:=.agg [I x.Day,I x.Kind,I x.Clause,I x.Party]
abbrev ahf (x:Entry):V:=.agg [I x.Day,I x.Kind,I x.Clause,I x.Party]
theorem rd (x:Entry):eN (jE x)=jE x:=rfl
theorem LW (a b:Entry)(h:jE a=jE b):a=b:=by
 obtain⟨p0,p1,p2,p3⟩:=a
 obtain⟨q0,q1,q2,q3⟩:=b
 replace h:=V.agg.inj h
 obtain⟨h0,h⟩:=List.cons.inj h
 obtain rfl:=bd p0 q0 h0
 obtain⟨h1,h⟩:=List.cons.inj h
 obtain rfl:=bd p1 q1 h1
 obtain⟨h2,h⟩:=List.cons.inj h
 obtain rfl:=bd p2 q2 h2
 obtain⟨h3,h⟩:=List.cons.inj h
 obtain rfl:=bd p3 q3 h3
 rfl
structure machine where
 f_c:Contract
 f_s:State
 f_names:List ac
 f_trace:List Entry
 f_failed:Bool
def cD (x:machine):V:=.agg [.isl false (x.f_c.Parties.map str),.isl false (x.f_c.Clauses.map ao),I x.f_s.Day,.isl false (x.f_s.Facts.map str),.isl false (x.f_s.Duties.map ah),.isl false (x.f_s.Balances.map I),B x.f_s.Over,.isl false (x.f_names.map str),.isl false (x.f_trace.map jE),B x.f_failed]
abbrev acx (x:machine):V:=.agg [.isl false (x.f_c.Parties.map str),.isl false (x.f_c.Clauses.map ao),I x.f_s.Day,.isl false (x.f_s.Facts.map str),.isl false (x.f_s.Duties.map ah),.isl false (x.f_s.Balances.map I),B x.f_s.Over,.isl false (x.f_names.map str),.isl false (x.f_trace.map jE),B x.f_failed]
theorem jd (a b:machine)(h:cD a=cD b):a=b:=by
 obtain⟨⟨p0,p1⟩,⟨p2,p3,p4,p5,p6⟩,p7,p8,p9⟩:=a
 obtain⟨⟨q0,q1⟩,⟨q2,q3,q4,q5,q6⟩,q7,q8,q9⟩:=b
 replace h:=V.agg.inj h
 obtain⟨h0,h⟩:=List.cons.inj h
 obtain rfl:=(bC bx) p0 q0 h0
 obtain⟨h1,h⟩:=List.cons.inj h
 obtain rfl:=(bC cG) p1 q1 h1
 obtain⟨h2,h⟩:=List.cons.inj h
 obtain rfl:=bd p2 q2 h2
 obtain⟨h3,h⟩:=List.cons.inj h
 obtain rfl:=(bC bx) p3 q3 h3
 obtain⟨h4,h⟩:=List.cons.inj h
 obtain rfl:=(bC ec) p4 q4 h4
 obtain⟨h5,h⟩:=List.cons.inj h
 obtain rfl:=(bC bd) p5 q5 h5
 obtain⟨h6,h⟩:=List.cons.inj h
 obtain rfl:=EB p6 q6 h6
 obtain⟨h7,h⟩:=List.cons.inj h
 obtain rfl:=(bC bx) p7 q7 h7
 obtain⟨h8,h⟩:=List.cons.inj h
 obtain rfl:=(bC LW) p8 q8 h8
 obtain⟨h9,h⟩:=List.cons.inj h
 obtain rfl:=EB p9 q9 h9
 rfl
def OI (x:machine):V:=.agg [.isl false (x.f_c.Parties.map str),.isl false (x.f_c.Clauses.map ao),I x.f_s.Day,.usl 1 (x.f_s.Facts.map str),.usl 4 (x.f_s.Duties.map ah),.usl 1 (x.f_s.Balances.map I),B x.f_s.Over,.usl 1 (x.f_names.map str),.usl 4 (x.f_trace.map jE),B x.f_failed]
abbrev acy (x:machine):V:=.agg [.isl false (x.f_c.Parties.map str),.isl false (x.f_c.Clauses.map ao),I x.f_s.Day,.usl 1 (x.f_s.Facts.map str),.usl 4 (x.f_s.Duties.map ah),.usl 1 (x.f_s.Balances.map I),B x.f_s.Over,.usl 1 (x.f_names.map str),.usl 4 (x.f_trace.map jE),B x.f_failed]
mutual
def pM:Condition→Prop
 | ⟨a0,a1,a2,a3⟩=>pc a0∧zg a1∧pc a2∧(a3.length≤maxLen∧Nu a3)
def Nu:List Condition→Prop
 | []=>True
 | x::xs=>pM x∧Nu xs
end
theorem Nv:∀xs,Nu xs↔∀x∈xs,pM x
 | []=>by simp[Nu]
 | x::xs=>by simp[Nu,Nv xs]
theorem Nt (x:Condition):pM x↔pc x.Op∧zg x.Name∧pc x.Day∧tB pM x.Parts:=by cases x;simp only[pM,Nv,tB]
def tD (x:Clause):Prop:=zg x.Id∧pc x.Kind∧pc x.Party∧zg x.Action∧pc x.Other∧pc x.Amount∧pM x.When∧pc x.Within∧zg x.Repair
def Zu (x:Contract):Prop:=(tB zg) x.Parties∧(tB tD) x.Clauses
def KN (x:Duty):Prop:=pc x.Clause∧pc x.Since∧pc x.Due∧pc x.Status
def En (x:State):Prop:=pc x.Day∧(tB zg) x.Facts∧(tB KN) x.Duties∧(tB pc) x.Balances∧okB x.Over
def nV (a_1:List ac)(aw:Int)(self:(Int×Int)→Option (Int⊕Int))(x3:Int×Int):Option (Int⊕Int):=
 bif (decide (x3.2<(len a_1))) then ((aI a_1 x3.2).bind fun e4=>bif (decide ((aj (x3.1 - (len e4)))<0)) then (some (.inl (-1))) else (self ((aj (x3.1 - (len e4))),(aj (x3.2+1))))) else (some (.inr x3.1))
def ur (a_1:List ac)(aw:Int): (Int×Int)→Option (Int⊕Int):=aN (nV a_1 aw)
theorem Ar (a_1:List ac)(aw:Int): ∀a,Fin1 fun f=>nV a_1 aw f a:=by
 unfold nV
 repeat first|intro _|exact aZ|exact bz|apply bE|apply bi|apply bm|apply br|apply bF
theorem RX (a_1:List ac)(aw:Int)(x:Int×Int):ur a_1 aw x=nV a_1 aw (ur a_1 aw) x:=bP (Ar a_1 aw) x
def xD (a_1:List ac)(aw:Int):Option Int:=
 bif (decide ((aj (aw - (len a_1)))<0)) then (some (-1)) else (be (ρ:=Int) (ur a_1 aw ((aj (aw - (len a_1))),0)) fun u5:Int=>some u5)
def lS (bH:(Condition×Int)→Option Int)(a_1:List Condition)(aw:Int)(self:(Int×Int)→Option (Int⊕Int))(x3:Int×Int):Option (Int⊕Int):=
 bif (decide (x3.2<(len a_1))) then ((aI a_1 x3.2).bind fun e4=>(bH (e4,x3.1)).bind fun r5=>bif (decide (r5<0)) then (some (.inl (-1))) else (self (r5,(aj (x3.2+1))))) else (some (.inr x3.1))
def rS (bH:(Condition×Int)→Option Int)(a_1:List Condition)(aw:Int): (Int×Int)→Option (Int⊕Int):=aN (lS bH a_1 aw)
theorem Aq (bH:(Condition×Int)→Option Int)(a_1:List Condition)(aw:Int): ∀a,Fin1 fun f=>lS bH a_1 aw f a:=by
 unfold lS
 repeat first|intro _|exact aZ|exact bz|apply bE|apply bi|apply bm|apply br|apply bF
theorem RV (bH:(Condition×Int)→Option Int)(a_1:List Condition)(aw:Int)(x:Int×Int):rS bH a_1 aw x=lS bH a_1 aw (rS bH a_1 aw) x:=bP (Aq bH a_1 aw) x
def xC (bH:(Condition×Int)→Option Int)(a_1:List Condition)(aw:Int):Option Int:=
 bif (decide ((aj (aw - (len a_1)))<0)) then (some (-1)) else (be (ρ:=Int) (rS bH a_1 aw ((aj (aw - (len a_1))),0)) fun u6:Int=>some u6)
def uq (bH:(Condition×Int)→Option Int)(a_1:Condition)(aw:Int):Option Int:=
 bif (decide ((aj (aw - (len a_1.Name)))<0)) then (some (-1)) else ((xC bH a_1.Parts (aj (aw - (len a_1.Name)))).bind fun r3=>bif (decide (r3<0)) then (some (-1)) else (some r3))
def qC (bH:(Condition×Int)→Option Int)(x:Condition×Int):Option Int:=uq bH x.1 x.2
def xz (a_1:Condition)(aw:Int):Option Int:=aN qC (a_1,aw)
theorem Zb:∀x,Fin1 fun bH=>qC bH x:=by
 unfold qC uq
 repeat first|intro _|exact aZ|exact bz|exact kq|exact mJ|exact je|exact kQ|exact jF|exact jG|apply bE|apply bi|apply bm|apply br|apply bF|apply rz|unfold xC|unfold rS|unfold lS
theorem acD (a_1:Condition)(aw:Int):xz a_1 aw=uq (aN qC) a_1 aw:=bP Zb (a_1,aw)
def vR (a_1:Clause)(aw:Int):Option Int:=
 bif (decide ((aj (aw - (len a_1.Id)))<0)) then (some (-1)) else (bif (decide ((aj ((aj (aw - (len a_1.Id))) - (len a_1.Action)))<0)) then (some (-1)) else ((xz a_1.When (aj ((aj (aw - (len a_1.Id))) - (len a_1.Action)))).bind fun r3=>bif (decide (r3<0)) then (some (-1)) else (bif (decide ((aj (r3 - (len a_1.Repair)))<0)) then (some (-1)) else (some (aj (r3 - (len a_1.Repair)))))))
def nU (a_1:List Clause)(aw:Int)(self:(Int×Int)→Option (Int⊕Int))(x3:Int×Int):Option (Int⊕Int):=
 bif (decide (x3.2<(len a_1))) then ((aI a_1 x3.2).bind fun e4=>(vR e4 x3.1).bind fun r5=>bif (decide (r5<0)) then (some (.inl (-1))) else (self (r5,(aj (x3.2+1))))) else (some (.inr x3.1))
def uo (a_1:List Clause)(aw:Int): (Int×Int)→Option (Int⊕Int):=aN (nU a_1 aw)
theorem Ap (a_1:List Clause)(aw:Int): ∀a,Fin1 fun f=>nU a_1 aw f a:=by
 unfold nU
 repeat first|intro _|exact aZ|exact bz|apply bE|apply bi|apply bm|apply br|apply bF
theorem RU (a_1:List Clause)(aw:Int)(x:Int×Int):uo a_1 aw x=nU a_1 aw (uo a_1 aw) x:=bP (Ap a_1 aw) x
def Cw (a_1:List Clause)(aw:Int):Option Int:=
 bif (decide ((aj (aw - (len a_1)))<0)) then (some (-1)) else (be (ρ:=Int) (uo a_1 aw ((aj (aw - (len a_1))),0)) fun u6:Int=>some u6)
def CA (a_1:Contract)(aw:Int):Option Int:=
 (xD a_1.Parties aw).bind fun r3=>bif (decide (r3<0)) then (some (-1)) else ((Cw a_1.Clauses r3).bind fun r4=>bif (decide (r4<0)) then (some (-1)) else (some r4))
def CC (a_1:List Duty)(aw:Int):Option Int:=
 bif (decide ((aj (aw - (len a_1)))<0)) then (some (-1)) else (some (aj (aw - (len a_1))))
def CE (a_1:List Int)(aw:Int):Option Int:=
 bif (decide ((aj (aw - (len a_1)))<0)) then (some (-1)) else (some (aj (aw - (len a_1))))
def CG (a_1:State)(aw:Int):Option Int:=
 (xD a_1.Facts aw).bind fun r3=>bif (decide (r3<0)) then (some (-1)) else ((CC a_1.Duties r3).bind fun r4=>bif (decide (r4<0)) then (some (-1)) else ((CE a_1.Balances r4).bind fun r5=>bif (decide (r5<0)) then (some (-1)) else (some r5)))
def nZ (a_1:List ac)(self:(Int×(List ac))→Option ((List ac)⊕(List ac)))(x3:Int×(List ac)):Option ((List ac)⊕(List ac)):=
 bif (decide (x3.1<(len a_1))) then ((aI a_1 x3.1).bind fun e4=>(aI x3.2 x3.1).bind fun e5=>self ((aj (x3.1+1)),(dM x3.2 x3.1 e4))) else (some (.inr x3.2))
def uA (a_1:List ac): (Int×(List ac))→Option ((List ac)⊕(List ac)):=aN (nZ a_1)
theorem Az (a_1:List ac): ∀a,Fin1 fun f=>nZ a_1 f a:=by
 unfold nZ
 repeat first|intro _|exact aZ|exact bz|apply bE|apply bi|apply bm|apply br|apply bF
theorem R4 (a_1:List ac)(x:Int×(List ac)):uA a_1 x=nZ a_1 (uA a_1) x:=bP (Az a_1) x
def xL (a_1:List ac):Option (List ac):=
 (tz 16 [] (len a_1)).bind fun m2=>be (ρ:=(List ac)) (uA a_1 (0,m2)) fun u6:(List ac)=>some u6
def lT (bI:Condition→Option Condition)(a_1:List Condition)(self:(Int×(List Condition))→Option ((List Condition)⊕(List Condition)))(x3:Int×(List Condition)):Option ((List Condition)⊕(List Condition)):=
 bif (decide (x3.1<(len a_1))) then ((aI a_1 x3.1).bind fun e4=>(bI e4).bind fun r5=>(aI x3.2 x3.1).bind fun e6=>self ((aj (x3.1+1)),(dM x3.2 x3.1 r5))) else (some (.inr x3.2))
def rT (bI:Condition→Option Condition)(a_1:List Condition): (Int×(List Condition))→Option ((List Condition)⊕(List Condition)):=aN (lT bI a_1)
theorem Av (bI:Condition→Option Condition)(a_1:List Condition): ∀a,Fin1 fun f=>lT bI a_1 f a:=by
 unfold lT
 repeat first|intro _|exact aZ|exact bz|apply bE|apply bi|apply bm|apply br|apply bF
theorem RZ (bI:Condition→Option Condition)(a_1:List Condition)(x:Int×(List Condition)):rT bI a_1 x=lT bI a_1 (rT bI a_1) x:=bP (Av bI a_1) x
def xH (bI:Condition→Option Condition)(a_1:List Condition):Option (List Condition):=
 (tz 56 (Condition.mk 0 [] 0 []) (len a_1)).bind fun m2=>be (ρ:=(List Condition)) (rT bI a_1 (0,m2)) fun u7:(List Condition)=>some u7
def uu (bI:Condition→Option Condition)(a_1:Condition):Option Condition:=
 (xH bI a_1.Parts).bind fun r2=>some (Condition.mk a_1.Op a_1.Name a_1.Day r2)
def qD (bI:Condition→Option Condition)(x:Condition):Option Condition:=uu bI x
def CL (a_1:Condition):Option Condition:=aN qD a_1
theorem Zl:∀x,Fin1 fun bI=>qD bI x:=by
 unfold qD uu
 repeat first|intro _|exact aZ|exact bz|exact kq|exact mJ|exact je|exact kQ|exact jF|exact jG|apply bE|apply bi|apply bm|apply br|apply bF|apply rz|unfold xH|unfold rT|unfold lT
theorem acE (a_1:Condition):CL a_1=uu (aN qD) a_1:=bP Zl a_1
def xE (a_1:Clause):Option Clause:=
 (CL a_1.When).bind fun r2=>some (Clause.mk a_1.Id a_1.Kind a_1.Party a_1.Action a_1.Other a_1.Amount r2 a_1.Within a_1.Repair)
def nW (a_1:List Clause)(self:(Int×(List Clause))→Option ((List Clause)⊕(List Clause)))(x3:Int×(List Clause)):Option ((List Clause)⊕(List Clause)):=
 bif (decide (x3.1<(len a_1))) then ((aI a_1 x3.1).bind fun e4=>(xE e4).bind fun r5=>(aI x3.2 x3.1).bind fun e6=>self ((aj (x3.1+1)),(dM x3.2 x3.1 r5))) else (some (.inr x3.2))
def ut (a_1:List Clause): (Int×(List Clause))→Option ((List Clause)⊕(List Clause)):=aN (nW a_1)
theorem Au (a_1:List Clause): ∀a,Fin1 fun f=>nW a_1 f a:=by
 unfold nW
 repeat first|intro _|exact aZ|exact bz|apply bE|apply bi|apply bm|apply br|apply bF
theorem RY (a_1:List Clause)(x:Int×(List Clause)):ut a_1 x=nW a_1 (ut a_1) x:=bP (Au a_1) x
def CJ (a_1:List Clause):Option (List Clause):=
 (tz 144 (Clause.mk [] 0 0 [] 0 0 (Condition.mk 0 [] 0 []) 0 []) (len a_1)).bind fun m2=>be (ρ:=(List Clause)) (ut a_1 (0,m2)) fun u7:(List Clause)=>some u7
def vT (a_1:Contract):Option Contract:=
 (xL a_1.Parties).bind fun r2=>(CJ a_1.Clauses).bind fun r3=>some (Contract.mk r2 r3)
def xJ (a_1:Duty):Option Duty:=
 some a_1
def nX (a_1:List Duty)(self:(Int×(List Duty))→Option ((List Duty)⊕(List Duty)))(x3:Int×(List Duty)):Option ((List Duty)⊕(List Duty)):=
 bif (decide (x3.1<(len a_1))) then ((aI a_1 x3.1).bind fun e4=>(xJ e4).bind fun r5=>(aI x3.2 x3.1).bind fun e6=>self ((aj (x3.1+1)),(dM x3.2 x3.1 r5))) else (some (.inr x3.2))
def uw (a_1:List Duty): (Int×(List Duty))→Option ((List Duty)⊕(List Duty)):=aN (nX a_1)
theorem Aw (a_1:List Duty): ∀a,Fin1 fun f=>nX a_1 f a:=by
 unfold nX
 repeat first|intro _|exact aZ|exact bz|apply bE|apply bi|apply bm|apply br|apply bF
theorem R1 (a_1:List Duty)(x:Int×(List Duty)):uw a_1 x=nX a_1 (uw a_1) x:=bP (Aw a_1) x
def CQ (a_1:List Duty):Option (List Duty):=
 (tz 32 (Duty.mk 0 0 0 0) (len a_1)).bind fun m2=>be (ρ:=(List Duty)) (uw a_1 (0,m2)) fun u7:(List Duty)=>some u7
def nY (a_1:List Int)(self:(Int×(List Int))→Option ((List Int)⊕(List Int)))(x3:Int×(List Int)):Option ((List Int)⊕(List Int)):=
 bif (decide (x3.1<(len a_1))) then ((aI a_1 x3.1).bind fun e4=>(aI x3.2 x3.1).bind fun e5=>self ((aj (x3.1+1)),(dM x3.2 x3.1 e4))) else (some (.inr x3.2))
def uz (a_1:List Int): (Int×(List Int))→Option ((List Int)⊕(List Int)):=aN (nY a_1)
theorem Ay (a_1:List Int): ∀a,Fin1 fun f=>nY a_1 f a:=by
 unfold nY
 repeat first|intro _|exact aZ|exact bz|apply bE|apply bi|apply bm|apply br|apply bF
theorem R3 (a_1:List Int)(x:Int×(List Int)):uz a_1 x=nY a_1 (uz a_1) x:=bP (Ay a_1) x
def CS (a_1:List Int):Option (List Int):=
 (tz 8 0 (len a_1)).bind fun m2=>be (ρ:=(List Int)) (uz a_1 (0,m2)) fun u6:(List Int)=>some u6
def vU (a_1:State):Option State:=
 (xL a_1.Facts).bind fun r2=>(CQ a_1.Duties).bind fun r3=>(CS a_1.Balances).bind fun r4=>some (State.mk a_1.Day r2 r3 r4 a_1.Over)
def eJ (x_1:Int)(a_2:Int)(b_3:Int):Option Bool:=
 cz (bif (decide (x_1≥a_2)) then (decide (x_1≤b_3)) else false) fun u4:Bool=>some u4
def ym (b_1:Int):Option Bool:=
 cz (bif (decide (b_1≥97)) then (cz (bif (decide (b_1≤122)) then true else (cz (bif (decide (b_1≥48)) then (decide (b_1≤57)) else false) fun u4:Bool=>u4)) fun u3:Bool=>u3) else (cz (bif (decide (b_1≥48)) then (decide (b_1≤57)) else false) fun u5:Bool=>u5)) fun u2:Bool=>some u2
def ov (s_1:ac)(self:Int→Option (Bool⊕Unit))(x4:Int):Option (Bool⊕Unit):=
 bif (decide (x4<(len s_1))) then ((aI s_1 x4).bind fun c5=>(ym (c5.toNat:Int)).bind fun r6=>bif (!r6) then (some (.inl false)) else (self (aj (x4+1)))) else (some (.inr ()))
def uT (s_1:ac): Int→Option (Bool⊕Unit):=aN (ov s_1)
theorem Bb (s_1:ac): ∀a,Fin1 fun f=>ov s_1 f a:=by
 unfold ov
 repeat first|intro _|exact aZ|exact bz|apply bE|apply bi|apply bm|apply br|apply bF
theorem Sg (s_1:ac)(x:Int):uT s_1 x=ov s_1 (uT s_1) x:=bP (Bb s_1) x
def qZ (s_1:ac):Option Bool:=
 (eJ (len s_1) 1 8).bind fun r2=>be (ρ:=Bool) (bif (!r2) then (some (.inr true)) else ((aI s_1 0).bind fun c16=>ch (ρ:=Bool) (bif (decide ((c16.toNat:Int)<97)) then (some (.inr true)) else ((aI s_1 0).bind fun c18=>some (.inr (decide ((c18.toNat:Int)>122))))) fun u17:Bool=>some (.inr u17))) fun u3:Bool=>bif u3 then (some false) else (be (ρ:=Bool) (uT s_1 0) fun u7:Unit=>cz (bif (s_1==([116,114,117,101]:ac)) then (s_1==([116,114,117,101]:ac)) else (cz (bif (s_1==([102,114,111,109]:ac)) then (s_1==([102,114,111,109]:ac)) else (cz (bif (s_1==([110,111,116]:ac)) then (s_1==([110,111,116]:ac)) else (cz (bif (s_1==([97,110,100]:ac)) then (s_1==([97,110,100]:ac)) else (cz (bif (s_1==([111,114]:ac)) then (s_1==([111,114]:ac)) else (cz (bif (s_1==([98,111,116,104]:ac)) then (s_1==([98,111,116,104]:ac)) else (cz (bif (s_1==([101,105,116,104,101,114]:ac)) then (s_1==([101,105,116,104,101,114]:ac)) else (cz (bif (s_1==([105,116]:ac)) then (s_1==([105,116]:ac)) else (s_1==([105,110]:ac))) fun u15:Bool=>u15)) fun u14:Bool=>u14)) fun u13:Bool=>u13)) fun u12:Bool=>u12)) fun u11:Bool=>u11)) fun u10:Bool=>u10)) fun u9:Bool=>u9)) fun u8:Bool=>bif u8 then (some false) else (some true))
def l5 (ay:List ac)(fx:ac)(self:Int→Option (Bool⊕Unit))(x3:Int):Option (Bool⊕Unit):=
 bif (decide (x3<(len ay))) then ((aI ay x3).bind fun e4=>bif (e4==fx) then (some (.inl true)) else (self (aj (x3+1)))) else (some (.inr ()))
def rZ (ay:List ac)(fx:ac): Int→Option (Bool⊕Unit):=aN (l5 ay fx)
theorem Ba (ay:List ac)(fx:ac): ∀a,Fin1 fun f=>l5 ay fx f a:=by
 unfold l5
 repeat first|intro _|exact aZ|exact bz|apply bE|apply bi|apply bm|apply br|apply bF
theorem Hv (ay:List ac)(fx:ac)(x:Int):rZ ay fx x=l5 ay fx (rZ ay fx) x:=bP (Ba ay fx) x
def qY (ay:List ac)(fx:ac):Option Bool:=
 be (ρ:=Bool) (rZ ay fx 0) fun u5:Unit=>some false
def mc (c_1:Contract)(self:Int→Option (Bool⊕Unit))(x2:Int):Option (Bool⊕Unit):=
 bif (decide (x2<(len c_1.Parties))) then ((aI c_1.Parties x2).bind fun e3=>(qZ e3).bind fun r4=>ch (ρ:=Bool) (bif (!r4) then (some (.inr true)) else ((lH c_1.Parties 0 x2).bind fun s6=>(aI c_1.Parties x2).bind fun e7=>(qY s6 e7).bind fun r8=>some (.inr r8))) fun u5:Bool=>bif u5 then (some (.inl false)) else (self (aj (x2+1)))) else (some (.inr ()))
def vd (c_1:Contract): Int→Option (Bool⊕Unit):=aN (mc c_1)
theorem Bj (c_1:Contract): ∀a,Fin1 fun f=>mc c_1 f a:=by
 unfold mc
 repeat first|intro _|exact aZ|exact bz|apply bE|apply bi|apply bm|apply br|apply bF
theorem HX (c_1:Contract)(x:Int):vd c_1 x=mc c_1 (vd c_1) x:=bP (Bj c_1) x
def yx (c_1:Contract):Option Bool:=
 be (ρ:=Bool) (vd c_1 0) fun u9:Unit=>(eJ (len c_1.Parties) 2 4).bind fun r10=>some r10
def oz (c_1:Contract)(fG:ac)(self:Int→Option (Int⊕Unit))(x3:Int):Option (Int⊕Unit):=
 bif (decide (x3<(len c_1.Clauses))) then ((aI c_1.Clauses x3).bind fun e4=>bif (e4.Id==fG) then (some (.inl x3)) else (self (aj (x3+1)))) else (some (.inr ()))
def vb (c_1:Contract)(fG:ac): Int→Option (Int⊕Unit):=aN (oz c_1 fG)
theorem Bg (c_1:Contract)(fG:ac): ∀a,Fin1 fun f=>oz c_1 fG f a:=by
 unfold oz
 repeat first|intro _|exact aZ|exact bz|apply bE|apply bi|apply bm|apply br|apply bF
theorem Si (c_1:Contract)(fG:ac)(x:Int):vb c_1 fG x=oz c_1 fG (vb c_1 fG) x:=bP (Bg c_1 fG) x
def wd (c_1:Contract)(fG:ac):Option Int:=
 be (ρ:=Int) (vb c_1 fG 0) fun u5:Unit=>some (-1)
def sh (ix:Int):Option Bool:=
 (eJ ix 0 36524).bind fun r2=>some r2
def DA (c_1:Condition):Option Bool:=
 bif (c_1.Op==1) then (cz (bif ((len c_1.Parts)==0) then (cz (bif (c_1.Name==([]:ac)) then (c_1.Day==0) else false) fun u3:Bool=>u3) else false) fun u2:Bool=>some u2) else (bif (c_1.Op==2) then (be (ρ:=Bool) (bif ((len c_1.Parts)==0) then ((qZ c_1.Name).bind fun r5=>cz (bif r5 then (c_1.Day==0) else false) fun u6:Bool=>some (.inr u6)) else (some (.inr false))) fun u4:Bool=>some u4) else (bif (c_1.Op==3) then (be (ρ:=Bool) (bif ((len c_1.Parts)==0) then (ch (ρ:=Bool) (bif (c_1.Name==([]:ac)) then ((sh c_1.Day).bind fun r9=>some (.inr r9)) else (some (.inr false))) fun u8:Bool=>some (.inr u8)) else (some (.inr false))) fun u7:Bool=>some u7) else (bif (c_1.Op==4) then (cz (bif ((len c_1.Parts)==1) then (cz (bif (c_1.Name==([]:ac)) then (c_1.Day==0) else false) fun u11:Bool=>u11) else false) fun u10:Bool=>some u10) else (cz (bif (c_1.Op==5) then (c_1.Op==5) else (c_1.Op==6)) fun u12:Bool=>bif u12 then (cz (bif ((len c_1.Parts)==2) then (cz (bif (c_1.Name==([]:ac)) then (c_1.Day==0) else false) fun u14:Bool=>u14) else false) fun u13:Bool=>some u13) else (some false)))))
def l4 (cH:Condition→Option Bool)(c_1:Condition)(self:Int→Option (Bool⊕Unit))(x3:Int):Option (Bool⊕Unit):=
 bif (decide (x3<(len c_1.Parts))) then ((aI c_1.Parts x3).bind fun e4=>(cH e4).bind fun r5=>bif (!r5) then (some (.inl false)) else (self (aj (x3+1)))) else (some (.inr ()))
def rY (cH:Condition→Option Bool)(c_1:Condition): Int→Option (Bool⊕Unit):=aN (l4 cH c_1)
theorem A9 (cH:Condition→Option Bool)(c_1:Condition): ∀a,Fin1 fun f=>l4 cH c_1 f a:=by
 unfold l4
 repeat first|intro _|exact aZ|exact bz|apply bE|apply bi|apply bm|apply br|apply bF
theorem Sf (cH:Condition→Option Bool)(c_1:Condition)(x:Int):rY cH c_1 x=l4 cH c_1 (rY cH c_1) x:=bP (A9 cH c_1) x
def uR (cH:Condition→Option Bool)(c_1:Condition):Option Bool:=
 (DA c_1).bind fun r2=>bif (!r2) then (some false) else (be (ρ:=Bool) (rY cH c_1 0) fun u6:Unit=>some true)
def sj (cH:Condition→Option Bool)(x:Condition):Option Bool:=uR cH x
def Kb (c_1:Condition):Option Bool:=aN sj c_1
theorem Z5:∀x,Fin1 fun cH=>sj cH x:=by
 unfold sj uR
 repeat first|intro _|exact aZ|exact bz|exact kq|exact mJ|exact je|exact kQ|exact jF|exact jG|apply bE|apply bi|apply bm|apply br|apply bF|apply rz|unfold rY|unfold l4
theorem acL (c_1:Condition):Kb c_1=uR (aN sj) c_1:=bP Z5 c_1
def kG (cJ:Condition→Option Int)(c_1:Condition)(self:(Int×Int)→Option (Int⊕Int))(x2:Int×Int):Option (Int⊕Int):=
 bif (decide (x2.2<(len c_1.Parts))) then ((aI c_1.Parts x2.2).bind fun e3=>(cJ e3).bind fun r4=>self ((aj (x2.1+r4)),(aj (x2.2+1)))) else (some (.inr x2.1))
def mE (cJ:Condition→Option Int)(c_1:Condition): (Int×Int)→Option (Int⊕Int):=aN (kG cJ c_1)
theorem Be (cJ:Condition→Option Int)(c_1:Condition): ∀a,Fin1 fun f=>kG cJ c_1 f a:=by
 unfold kG
 repeat first|intro _|exact aZ|exact bz|apply bE|apply bi|apply bm|apply br|apply bF
theorem HG (cJ:Condition→Option Int)(c_1:Condition)(x:Int×Int):mE cJ c_1 x=kG cJ c_1 (mE cJ c_1) x:=bP (Be cJ c_1) x
def uY (cJ:Condition→Option Int)(c_1:Condition):Option Int:=
 be (ρ:=Int) (mE cJ c_1 (1,0)) fun u5:Int=>some u5
def l9 (cJ:Condition→Option Int)(x:Condition):Option Int:=uY cJ x
def NW (c_1:Condition):Option Int:=aN l9 c_1
theorem aag:∀x,Fin1 fun cJ=>l9 cJ x:=by
 unfold l9 uY
 repeat first|intro _|exact aZ|exact bz|exact kq|exact mJ|exact je|exact kQ|exact jF|exact jG|apply bE|apply bi|apply bm|apply br|apply bF|apply rz|unfold mE|unfold kG
theorem acO (c_1:Condition):NW c_1=uY (aN l9) c_1:=bP aag c_1
def DD (c_1:Condition):Option Bool:=
 (Kb c_1).bind fun r2=>be (ρ:=Bool) (bif r2 then ((NW c_1).bind fun r4=>some (.inr (decide (r4≤15)))) else (some (.inr false))) fun u3:Bool=>some u3
def DJ (c_1:Contract)(i_2:Int):Option Bool:=
 (aI c_1.Clauses i_2).bind fun e3=>(qZ e3.Id).bind fun r4=>be (ρ:=Bool) (bif (!r4) then (some (.inr true)) else ((qZ e3.Action).bind fun r17=>ch (ρ:=Bool) (bif (!r17) then (some (.inr true)) else ((eJ e3.Kind 1 4).bind fun r19=>ch (ρ:=Bool) (bif (!r19) then (some (.inr true)) else ((eJ e3.Party 0 (aj ((len c_1.Parties) - 1))).bind fun r21=>ch (ρ:=Bool) (bif (!r21) then (some (.inr true)) else ((eJ e3.Other 0 (aj ((len c_1.Parties) - 1))).bind fun r23=>ch (ρ:=Bool) (bif (!r23) then (some (.inr true)) else (ch (ρ:=Bool) (bif (e3.Party==e3.Other) then (some (.inr true)) else ((DD e3.When).bind fun r26=>some (.inr (!r26)))) fun u25:Bool=>some (.inr u25))) fun u24:Bool=>some (.inr u24))) fun u22:Bool=>some (.inr u22))) fun u20:Bool=>some (.inr u20))) fun u18:Bool=>some (.inr u18))) fun u5:Bool=>bif u5 then (some false) else ((eJ e3.Amount 0 1000000).bind fun r6=>be (ρ:=Bool) (bif (!r6) then (some (.inr true)) else ((eJ e3.Within 0 400).bind fun r13=>cz (bif (!r13) then true else (cz (bif (e3.Kind != 1) then (cz (bif (e3.Amount != 0) then true else (e3.Within != 0)) fun u16:Bool=>u16) else false) fun u15:Bool=>u15)) fun u14:Bool=>some (.inr u14))) fun u7:Bool=>bif u7 then (some false) else (bif (e3.Repair==([]:ac)) then (some true) else ((wd c_1 e3.Repair).bind fun r8=>be (ρ:=Bool) (bif (decide (r8≥0)) then (ch (ρ:=Bool) (bif (r8 != i_2) then ((aI c_1.Clauses r8).bind fun e11=>cz (bif (e11.Kind==1) then (e3.Kind != 3) else false) fun u12:Bool=>some (.inr u12)) else (some (.inr false))) fun u10:Bool=>some (.inr u10)) else (some (.inr false))) fun u9:Bool=>some u9)))
def l8 (l_8:List ac)(s_9:ac)(self:Int→Option ((List ac)⊕(ac×Int×(List ac))))(x3:Int):Option ((List ac)⊕(ac×Int×(List ac))):=
 ch (ρ:=(List ac)) (bif (decide (x3<(len l_8))) then ((aI l_8 x3).bind fun e5=>some (.inr (Op.bytesLess e5 s_9))) else (some (.inr false))) fun u4:Bool=>bif u4 then (self (aj (x3+1))) else (some (.inr (s_9,x3,l_8)))
def uW (l_8:List ac)(s_9:ac): Int→Option ((List ac)⊕(ac×Int×(List ac))):=aN (l8 l_8 s_9)
theorem Bd (l_8:List ac)(s_9:ac): ∀a,Fin1 fun f=>l8 l_8 s_9 f a:=by
 unfold l8
 repeat first|intro _|exact aZ|exact bz|apply bE|apply bi|apply bm|apply br|apply bF
theorem HD (l_8:List ac)(s_9:ac)(x:Int):uW l_8 s_9 x=l8 l_8 s_9 (uW l_8 s_9) x:=bP (Bd l_8 s_9) x
def yj (l_8:List ac)(s_9:ac):Option (List ac):=
 be (ρ:=(List ac)) (uW l_8 s_9 0) fun u6:ac×Int×(List ac)=>be (ρ:=(List ac)) (bif (decide (u6.2.1<(len u6.2.2))) then ((aI u6.2.2 u6.2.1).bind fun e15=>some (.inr (e15==u6.1))) else (some (.inr false))) fun u7:Bool=>bif u7 then (some u6.2.2) else ((jY u6.2.2.length 0 u6.2.1).bind fun s8=>(kc u6.2.2 (0+Int.toNat (0)) (Int.toNat u6.2.1 - Int.toNat (0))).bind fun p9=>(gP 16 ([]:List ac) p9).bind fun a10=>(gP 16 a10 [u6.1]).bind fun a11=>(jY u6.2.2.length u6.2.1 (len u6.2.2)).bind fun s12=>(kc u6.2.2 (0+Int.toNat u6.2.1) (Int.toNat (len u6.2.2) - Int.toNat u6.2.1)).bind fun p13=>(gP 16 a11 p13).bind fun a14=>some a14)
def kF (cI:((List ac)×Condition)→Option (List ac))(l_4:List ac)(c_5:Condition)(self:(Int×(List ac))→Option ((List ac)⊕(List ac)))(x4:Int×(List ac)):Option ((List ac)⊕(List ac)):=
 bif (decide (x4.1<(len c_5.Parts))) then ((aI c_5.Parts x4.1).bind fun e5=>(cI (x4.2,e5)).bind fun r6=>self ((aj (x4.1+1)),r6)) else (some (.inr x4.2))
def mD (cI:((List ac)×Condition)→Option (List ac))(l_4:List ac)(c_5:Condition): (Int×(List ac))→Option ((List ac)⊕(List ac)):=aN (kF cI l_4 c_5)
theorem Bc (cI:((List ac)×Condition)→Option (List ac))(l_4:List ac)(c_5:Condition): ∀a,Fin1 fun f=>kF cI l_4 c_5 f a:=by
 unfold kF
 repeat first|intro _|exact aZ|exact bz|apply bE|apply bi|apply bm|apply br|apply bF
theorem HA (cI:((List ac)×Condition)→Option (List ac))(l_4:List ac)(c_5:Condition)(x:Int×(List ac)):mD cI l_4 c_5 x=kF cI l_4 c_5 (mD cI l_4 c_5) x:=bP (Bc cI l_4 c_5) x
def uU (cI:((List ac)×Condition)→Option (List ac))(l_4:List ac)(c_5:Condition):Option (List ac):=
 bif (c_5.Op==2) then ((yj l_4 c_5.Name).bind fun r3=>some r3) else (be (ρ:=(List ac)) (mD cI l_4 c_5 (0,l_4)) fun u7:(List ac)=>some u7)
def l7 (cI:((List ac)×Condition)→Option (List ac))(x:(List ac)×Condition):Option (List ac):=uU cI x.1 x.2
def NT (l_4:List ac)(c_5:Condition):Option (List ac):=aN l7 (l_4,c_5)
theorem aac:∀x,Fin1 fun cI=>l7 cI x:=by
 unfold l7 uU
 repeat first|intro _|exact aZ|exact bz|exact kq|exact mJ|exact je|exact kQ|exact jF|exact jG|apply bE|apply bi|apply bm|apply br|apply bF|apply rz|unfold mD|unfold kF
theorem acN (l_4:List ac)(c_5:Condition):NT l_4 c_5=uU (aN l7) l_4 c_5:=bP aac (l_4,c_5)
def mb (c_1:Contract)(self:(Int×(List ac))→Option ((List ac)⊕(List ac)))(x2:Int×(List ac)):Option ((List ac)⊕(List ac)):=
 bif (decide (x2.1<(len c_1.Clauses))) then ((aI c_1.Clauses x2.1).bind fun e3=>(yj x2.2 e3.Action).bind fun r4=>(aI c_1.Clauses x2.1).bind fun e5=>(NT r4 e5.When).bind fun r6=>self ((aj (x2.1+1)),r6)) else (some (.inr x2.2))
def oB (c_1:Contract): (Int×(List ac))→Option ((List ac)⊕(List ac)):=aN (mb c_1)
theorem Bi (c_1:Contract): ∀a,Fin1 fun f=>mb c_1 f a:=by
 unfold mb
 repeat first|intro _|exact aZ|exact bz|apply bE|apply bi|apply bm|apply br|apply bF
theorem HT (c_1:Contract)(x:Int×(List ac)):oB c_1 x=mb c_1 (oB c_1) x:=bP (Bi c_1) x
def pS (c_1:Contract):Option (List ac):=
 be (ρ:=(List ac)) (oB c_1 (0,[])) fun u7:(List ac)=>some u7
def ma (c_1:Contract)(self:Int→Option (Bool⊕Unit))(x4:Int):Option (Bool⊕Unit):=
 bif (decide (x4<(len c_1.Clauses))) then ((aI c_1.Clauses x4).bind fun e5=>(wd c_1 e5.Id).bind fun r6=>ch (ρ:=Bool) (bif (r6 != x4) then (some (.inr true)) else ((DJ c_1 x4).bind fun r8=>some (.inr (!r8)))) fun u7:Bool=>bif u7 then (some (.inl false)) else (self (aj (x4+1)))) else (some (.inr ()))
def mF (c_1:Contract): Int→Option (Bool⊕Unit):=aN (ma c_1)
theorem Bh (c_1:Contract): ∀a,Fin1 fun f=>ma c_1 f a:=by
 unfold ma
 repeat first|intro _|exact aZ|exact bz|apply bE|apply bi|apply bm|apply br|apply bF
theorem HQ (c_1:Contract)(x:Int):mF c_1 x=ma c_1 (mF c_1) x:=bP (Bh c_1) x
def DN (c_1:Contract):Option Bool:=
 (eJ (len c_1.Clauses) 1 12).bind fun r2=>be (ρ:=Bool) (bif (!r2) then (some (.inr true)) else ((yx c_1).bind fun r11=>some (.inr (!r11)))) fun u3:Bool=>bif u3 then (some false) else (be (ρ:=Bool) (mF c_1 0) fun u9:Unit=>(pS c_1).bind fun r10=>some (decide ((len r10)≤16)))
def kE (ay:List ac)(self:Int→Option (Bool⊕Unit))(x2:Int):Option (Bool⊕Unit):=
 cz (bif (decide (x2<(len ay))) then (decide (x2≤16)) else false) fun u3:Bool=>bif u3 then ((aI ay x2).bind fun e4=>(qZ e4).bind fun r5=>ch (ρ:=Bool) (bif (!r5) then (some (.inr true)) else (ch (ρ:=Bool) (bif (decide (x2>0)) then ((aI ay (aj (x2 - 1))).bind fun e8=>(aI ay x2).bind fun e9=>some (.inr (!(Op.bytesLess e8 e9)))) else (some (.inr false))) fun u7:Bool=>some (.inr u7))) fun u6:Bool=>bif u6 then (some (.inl false)) else (self (aj (x2+1)))) else (some (.inr ()))
def jr (ay:List ac): Int→Option (Bool⊕Unit):=aN (kE ay)
theorem A8 (ay:List ac): ∀a,Fin1 fun f=>kE ay f a:=by
 unfold kE
 repeat first|intro _|exact aZ|exact bz|apply bE|apply bi|apply bm|apply br|apply bF
theorem wb (ay:List ac)(x:Int):jr ay x=kE ay (jr ay) x:=bP (A8 ay) x
def Dy (ay:List ac):Option Bool:=
 be (ρ:=Bool) (jr ay 0) fun u10:Unit=>some (decide ((len ay)≤16))
def ox (c_1:Contract)(i_2:Int)(self:Int→Option (Bool⊕Unit))(x3:Int):Option (Bool⊕Unit):=
 bif (decide (x3<(len c_1.Clauses))) then ((aI c_1.Clauses x3).bind fun e4=>(aI c_1.Clauses i_2).bind fun e5=>bif (e4.Repair==e5.Id) then (some (.inl true)) else (self (aj (x3+1)))) else (some (.inr ()))
def va (c_1:Contract)(i_2:Int): Int→Option (Bool⊕Unit):=aN (ox c_1 i_2)
theorem Bf (c_1:Contract)(i_2:Int): ∀a,Fin1 fun f=>ox c_1 i_2 f a:=by
 unfold ox
 repeat first|intro _|exact aZ|exact bz|apply bE|apply bi|apply bm|apply br|apply bF
theorem Sh (c_1:Contract)(i_2:Int)(x:Int):va c_1 i_2 x=ox c_1 i_2 (va c_1 i_2) x:=bP (Bf c_1 i_2) x
def DL (c_1:Contract)(i_2:Int):Option Bool:=
 be (ρ:=Bool) (va c_1 i_2 0) fun u6:Unit=>some false
def md (s_1:State)(i_2:Int)(self:(Int×Int)→Option (Int⊕Int))(x3:Int×Int):Option (Int⊕Int):=
 bif (decide (x3.2<(len s_1.Duties))) then ((aI s_1.Duties x3.2).bind fun e4=>cz (bif (e4.Clause==i_2) then (aj (x3.1+1)) else x3.1) fun u5:Int=>self (u5,(aj (x3.2+1)))) else (some (.inr x3.1))
def mG (s_1:State)(i_2:Int): (Int×Int)→Option (Int⊕Int):=aN (md s_1 i_2)
theorem Bk (s_1:State)(i_2:Int): ∀a,Fin1 fun f=>md s_1 i_2 f a:=by
 unfold md
 repeat first|intro _|exact aZ|exact bz|apply bE|apply bi|apply bm|apply br|apply bF
theorem H1 (s_1:State)(i_2:Int)(x:Int×Int):mG s_1 i_2 x=md s_1 i_2 (mG s_1 i_2) x:=bP (Bk s_1 i_2) x
def DR (s_1:State)(i_2:Int):Option Int:=
 be (ρ:=Int) (mG s_1 i_2 (0,0)) fun u6:Int=>some u6
def DT (c_1:Contract)(s_2:State)(k_3:Int):Option Bool:=
 (aI s_2.Duties k_3).bind fun e4=>(eJ e4.Clause 0 (aj ((len c_1.Clauses) - 1))).bind fun r5=>be (ρ:=Bool) (bif (!r5) then (some (.inr true)) else ((aI c_1.Clauses e4.Clause).bind fun e35=>ch (ρ:=Bool) (bif (e35.Kind != 1) then (some (.inr true)) else ((eJ e4.Since 0 s_2.Day).bind fun r37=>ch (ρ:=Bool) (bif (!r37) then (some (.inr true)) else ((aI c_1.Clauses e4.Clause).bind fun e39=>ch (ρ:=Bool) (bif (e4.Due != (aj (e4.Since+e39.Within))) then (some (.inr true)) else ((sh e4.Due).bind fun r41=>ch (ρ:=Bool) (bif (!r41) then (some (.inr true)) else ((eJ e4.Status 1 4).bind fun r43=>some (.inr (!r43)))) fun u42:Bool=>some (.inr u42))) fun u40:Bool=>some (.inr u40))) fun u38:Bool=>some (.inr u38))) fun u36:Bool=>some (.inr u36))) fun u6:Bool=>bif u6 then (some false) else (be (ρ:=Bool) (bif (decide (k_3>0)) then ((aI s_2.Duties (aj (k_3 - 1))).bind fun e11=>cz (bif (decide (e11.Since>e4.Since)) then true else (cz (bif (e4.Status==1) then (cz (bif (decide (e4.Due<s_2.Day)) then true else (cz (bif s_2.Over then true else (cz (bif (e4.Status==3) then (cz (bif (decide (e4.Due≥s_2.Day)) then true else (cz (bif (e4.Status==4) then (!s_2.Over) else false) fun u18:Bool=>u18)) fun u17:Bool=>u17) else (cz (bif (e4.Status==4) then (!s_2.Over) else false) fun u19:Bool=>u19)) fun u16:Bool=>u16)) fun u15:Bool=>u15)) fun u14:Bool=>u14) else (cz (bif (e4.Status==3) then (cz (bif (decide (e4.Due≥s_2.Day)) then true else (cz (bif (e4.Status==4) then (!s_2.Over) else false) fun u22:Bool=>u22)) fun u21:Bool=>u21) else (cz (bif (e4.Status==4) then (!s_2.Over) else false) fun u23:Bool=>u23)) fun u20:Bool=>u20)) fun u13:Bool=>u13)) fun u12:Bool=>some (.inr u12)) else (cz (bif (e4.Status==1) then (cz (bif (decide (e4.Due<s_2.Day)) then true else (cz (bif s_2.Over then true else (cz (bif (e4.Status==3) then (cz (bif (decide (e4.Due≥s_2.Day)) then true else (cz (bif (e4.Status==4) then (!s_2.Over) else false) fun u29:Bool=>u29)) fun u28:Bool=>u28) else (cz (bif (e4.Status==4) then (!s_2.Over) else false) fun u30:Bool=>u30)) fun u27:Bool=>u27)) fun u26:Bool=>u26)) fun u25:Bool=>u25) else (cz (bif (e4.Status==3) then (cz (bif (decide (e4.Due≥s_2.Day)) then true else (cz (bif (e4.Status==4) then (!s_2.Over) else false) fun u33:Bool=>u33)) fun u32:Bool=>u32) else (cz (bif (e4.Status==4) then (!s_2.Over) else false) fun u34:Bool=>u34)) fun u31:Bool=>u31)) fun u24:Bool=>some (.inr u24))) fun u7:Bool=>bif u7 then (some false) else ((DL c_1 e4.Clause).bind fun r8=>be (ρ:=Bool) (bif r8 then (some (.inr true)) else ((DR s_2 e4.Clause).bind fun r10=>some (.inr (r10==1)))) fun u9:Bool=>some u9))
def Dv (x_1:Int):Option Bool:=
 (eJ x_1 (-1000000000) 1000000000).bind fun r2=>some r2
def l3 (ay:List Int)(self:(Int×Int)→Option (Int⊕Int))(x2:Int×Int):Option (Int⊕Int):=
 bif (decide (x2.2<(len ay))) then ((aI ay x2.2).bind fun e3=>self ((aj (x2.1+e3)),(aj (x2.2+1)))) else (some (.inr x2.1))
def lx (ay:List Int): (Int×Int)→Option (Int⊕Int):=aN (l3 ay)
theorem A7 (ay:List Int): ∀a,Fin1 fun f=>l3 ay f a:=by
 unfold l3
 repeat first|intro _|exact aZ|exact bz|apply bE|apply bi|apply bm|apply br|apply bF
theorem Hg (ay:List Int)(x:Int×Int):lx ay x=l3 ay (lx ay) x:=bP (A7 ay) x
def wa (ay:List Int):Option Int:=
 be (ρ:=Int) (lx ay (0,0)) fun u4:Int=>some u4
def oC (c_1:Contract)(s_2:State)(r5:(List ac))(self:Int→Option (Bool⊕Unit))(x6:Int):Option (Bool⊕Unit):=
 bif (decide (x6<(len s_2.Facts))) then ((aI s_2.Facts x6).bind fun e7=>(qY r5 e7).bind fun r8=>bif (!r8) then (some (.inl false)) else (self (aj (x6+1)))) else (some (.inr ()))
def vf (c_1:Contract)(s_2:State)(r5:(List ac)):Int→Option (Bool⊕Unit):=aN (oC c_1 s_2 r5)
theorem Bl (c_1:Contract)(s_2:State)(r5:(List ac)):∀a,Fin1 fun f=>oC c_1 s_2 r5 f a:=by
 unfold oC
 repeat first|intro _|exact aZ|exact bz|apply bE|apply bi|apply bm|apply br|apply bF
theorem Sj (c_1:Contract)(s_2:State)(r5:(List ac))(x:Int):vf c_1 s_2 r5 x=oC c_1 s_2 r5 (vf c_1 s_2 r5) x:=bP (Bl c_1 s_2 r5) x
def me (c_1:Contract)(s_2:State)(self:Int→Option (Bool⊕Unit))(x10:Int):Option (Bool⊕Unit):=
 bif (decide (x10<(len s_2.Duties))) then ((DT c_1 s_2 x10).bind fun r11=>bif (!r11) then (some (.inl false)) else (self (aj (x10+1)))) else (some (.inr ()))
def oD (c_1:Contract)(s_2:State): Int→Option (Bool⊕Unit):=aN (me c_1 s_2)
theorem Bm (c_1:Contract)(s_2:State): ∀a,Fin1 fun f=>me c_1 s_2 f a:=by
 unfold me
 repeat first|intro _|exact aZ|exact bz|apply bE|apply bi|apply bm|apply br|apply bF
theorem H6 (c_1:Contract)(s_2:State)(x:Int):oD c_1 s_2 x=me c_1 s_2 (oD c_1 s_2) x:=bP (Bm c_1 s_2) x
def oE (c_1:Contract)(s_2:State)(self:Int→Option (Bool⊕Unit))(x13:Int):Option (Bool⊕Unit):=
 bif (decide (x13<(len s_2.Balances))) then ((aI s_2.Balances x13).bind fun e14=>(Dv e14).bind fun r15=>bif (!r15) then (some (.inl false)) else (self (aj (x13+1)))) else (some (.inr ()))
def vg (c_1:Contract)(s_2:State): Int→Option (Bool⊕Unit):=aN (oE c_1 s_2)
theorem Bn (c_1:Contract)(s_2:State): ∀a,Fin1 fun f=>oE c_1 s_2 f a:=by
 unfold oE
 repeat first|intro _|exact aZ|exact bz|apply bE|apply bi|apply bm|apply br|apply bF
theorem Sk (c_1:Contract)(s_2:State)(x:Int):vg c_1 s_2 x=oE c_1 s_2 (vg c_1 s_2) x:=bP (Bn c_1 s_2) x
def ss (c_1:Contract)(s_2:State):Option Bool:=
 (DN c_1).bind fun r3=>be (ρ:=Bool) (bif (!r3) then (some (.inr true)) else ((sh s_2.Day).bind fun r18=>ch (ρ:=Bool) (bif (!r18) then (some (.inr true)) else ((Dy s_2.Facts).bind fun r20=>cz (bif (!r20) then true else (cz (bif (decide ((len s_2.Duties)>24)) then true else ((len s_2.Balances) != (len c_1.Parties))) fun u22:Bool=>u22)) fun u21:Bool=>some (.inr u21))) fun u19:Bool=>some (.inr u19))) fun u4:Bool=>bif u4 then (some false) else ((pS c_1).bind fun r5=>be (ρ:=Bool) (vf c_1 s_2 r5 0) fun u9:Unit=>be (ρ:=Bool) (oD c_1 s_2 0) fun u12:Unit=>be (ρ:=Bool) (vg c_1 s_2 0) fun u16:Unit=>(wa s_2.Balances).bind fun r17=>some (r17==0))
def Ds (c_1:Contract)(s_2:State)(aD:Int):Option Bool:=
 (ss c_1 s_2).bind fun r4=>be (ρ:=Bool) (bif r4 then ((eJ aD 0 (aj ((len c_1.Parties) - 1))).bind fun r6=>some (.inr r6)) else (some (.inr false))) fun u5:Bool=>some u5
def lZ (s_1:State)(dT:List Int)(k_3:Int)(self:Int→Option ((List Int)⊕Int))(x4:Int):Option ((List Int)⊕Int):=
 ch (ρ:=(List Int)) (bif (decide (x4>0)) then ((aI dT (aj (x4 - 1))).bind fun e6=>(aI s_1.Duties e6).bind fun e7=>(aI s_1.Duties k_3).bind fun e8=>some (.inr (decide (e7.Due>e8.Due)))) else (some (.inr false))) fun u5:Bool=>bif u5 then (self (aj (x4 - 1))) else (some (.inr x4))
def pR (s_1:State)(dT:List Int)(k_3:Int): Int→Option ((List Int)⊕Int):=aN (lZ s_1 dT k_3)
theorem A6 (s_1:State)(dT:List Int)(k_3:Int): ∀a,Fin1 fun f=>lZ s_1 dT k_3 f a:=by
 unfold lZ
 repeat first|intro _|exact aZ|exact bz|apply bE|apply bi|apply bm|apply br|apply bF
theorem Hb (s_1:State)(dT:List Int)(k_3:Int)(x:Int):pR s_1 dT k_3 x=lZ s_1 dT k_3 (pR s_1 dT k_3) x:=bP (A6 s_1 dT k_3) x
def v8 (s_1:State)(dT:List Int)(k_3:Int):Option (List Int):=
 be (ρ:=(List Int)) (pR s_1 dT k_3 (len dT)) fun u9:Int=>(lH dT 0 u9).bind fun s10=>(gP 8 ([]:List Int) s10).bind fun a11=>(gP 8 a11 [k_3]).bind fun a12=>(lH dT u9 (len dT)).bind fun s13=>(gP 8 a12 s13).bind fun a14=>some a14
def lY (c_1:Contract)(s_2:State)(ef:Int)(fA:Int)(self:(Int×(List Int))→Option ((List Int)⊕(List Int)))(x5:Int×(List Int)):Option ((List Int)⊕(List Int)):=
 bif (decide (x5.1<(len s_2.Duties))) then ((aI s_2.Duties x5.1).bind fun e6=>(aI c_1.Clauses e6.Clause).bind fun e7=>(aI s_2.Duties x5.1).bind fun e8=>cz (bif (e8.Status==1) then (cz (bif (decide (ef<0)) then (cz (bif (decide (fA<0)) then true else (e7.Other==fA)) fun u13:Bool=>u13) else (cz (bif (e7.Party==ef) then (cz (bif (decide (fA<0)) then true else (e7.Other==fA)) fun u15:Bool=>u15) else false) fun u14:Bool=>u14)) fun u12:Bool=>u12) else false) fun u9:Bool=>ch (ρ:=(List Int)) (bif u9 then ((v8 s_2 x5.2 x5.1).bind fun r11=>some (.inr r11)) else (some (.inr x5.2))) fun u10:(List Int)=>self ((aj (x5.1+1)),u10)) else (some (.inr x5.2))
def lw (c_1:Contract)(s_2:State)(ef:Int)(fA:Int): (Int×(List Int))→Option ((List Int)⊕(List Int)):=aN (lY c_1 s_2 ef fA)
theorem A5 (c_1:Contract)(s_2:State)(ef:Int)(fA:Int): ∀a,Fin1 fun f=>lY c_1 s_2 ef fA f a:=by
 unfold lY
 repeat first|intro _|exact aZ|exact bz|apply bE|apply bi|apply bm|apply br|apply bF
theorem G4 (c_1:Contract)(s_2:State)(ef:Int)(fA:Int)(x:Int×(List Int)):lw c_1 s_2 ef fA x=lY c_1 s_2 ef fA (lw c_1 s_2 ef fA) x:=bP (A5 c_1 s_2 ef fA) x
def Dq (c_1:Contract)(s_2:State)(ef:Int)(fA:Int):Option (List Int):=
 be (ρ:=(List Int)) (lw c_1 s_2 ef fA (0,[])) fun u16:(List Int)=>some u16
def uS (cV:(Condition×(List ac)×Int)→Option Bool)(c_1:Condition)(bN:List ac)(cy:Int):Option Bool:=
 bif (c_1.Op==1) then (some true) else (bif (c_1.Op==2) then ((qY bN c_1.Name).bind fun r4=>some r4) else (bif (c_1.Op==3) then (some (decide (cy≥c_1.Day))) else (bif (c_1.Op==4) then ((aI c_1.Parts 0).bind fun e5=>(cV (e5,bN,cy)).bind fun r6=>some (!r6)) else (bif (c_1.Op==5) then ((aI c_1.Parts 0).bind fun e7=>(cV (e7,bN,cy)).bind fun r8=>be (ρ:=Bool) (bif r8 then ((aI c_1.Parts 1).bind fun e10=>(cV (e10,bN,cy)).bind fun r11=>some (.inr r11)) else (some (.inr false))) fun u9:Bool=>some u9) else ((aI c_1.Parts 0).bind fun e12=>(cV (e12,bN,cy)).bind fun r13=>be (ρ:=Bool) (bif r13 then (some (.inr true)) else ((aI c_1.Parts 1).bind fun e15=>(cV (e15,bN,cy)).bind fun r16=>some (.inr r16))) fun u14:Bool=>some u14)))))
def l6 (cV:(Condition×(List ac)×Int)→Option Bool)(x:Condition×(List ac)×Int):Option Bool:=uS cV x.1 x.2.1 x.2.2
def Kc (c_1:Condition)(bN:List ac)(cy:Int):Option Bool:=aN l6 (c_1,bN,cy)
theorem Z9:∀x,Fin1 fun cV=>l6 cV x:=by
 unfold l6 uS
 repeat first|intro _|exact aZ|exact bz|apply bE|apply bi|apply bm|apply br|apply bF
theorem acM (c_1:Condition)(bN:List ac)(cy:Int):Kc c_1 bN cy=uS (aN l6) c_1 bN cy:=bP Z9 (c_1,bN,cy)
def DX (r_1:l9Run)(i_2:Int):Option Bool:=
 (aI r_1.f_c.Clauses i_2).bind fun e3=>(Kc e3.When r_1.f_s.Facts r_1.f_s.Day).bind fun r4=>some r4
def oG (r_1:l9Run)(dG:Int)(aD:Int)(aE:ac)(self:Int→Option (Int⊕Unit))(x5:Int):Option (Int⊕Unit):=
 bif (decide (x5<(len r_1.f_c.Clauses))) then ((aI r_1.f_c.Clauses x5).bind fun e6=>ch (ρ:=Int) (bif (e6.Kind==dG) then (ch (ρ:=Int) (bif (e6.Party==aD) then (ch (ρ:=Int) (bif (e6.Action==aE) then ((DX r_1 x5).bind fun r10=>some (.inr r10)) else (some (.inr false))) fun u9:Bool=>some (.inr u9)) else (some (.inr false))) fun u8:Bool=>some (.inr u8)) else (some (.inr false))) fun u7:Bool=>bif u7 then (some (.inl x5)) else (self (aj (x5+1)))) else (some (.inr ()))
def vi (r_1:l9Run)(dG:Int)(aD:Int)(aE:ac): Int→Option (Int⊕Unit):=aN (oG r_1 dG aD aE)
theorem Bo (r_1:l9Run)(dG:Int)(aD:Int)(aE:ac): ∀a,Fin1 fun f=>oG r_1 dG aD aE f a:=by
 unfold oG
 repeat first|intro _|exact aZ|exact bz|apply bE|apply bi|apply bm|apply br|apply bF
theorem Sl (r_1:l9Run)(dG:Int)(aD:Int)(aE:ac)(x:Int):vi r_1 dG aD aE x=oG r_1 dG aD aE (vi r_1 dG aD aE) x:=bP (Bo r_1 dG aD aE) x
def tM (r_1:l9Run)(dG:Int)(aD:Int)(aE:ac):Option Int:=
 be (ρ:=Int) (vi r_1 dG aD aE 0) fun u11:Unit=>some (-1)
def Kh (r_1:l9Run)(eU:Int)(ew:ac):Option Int:=
 (tM r_1 3 eU ew).bind fun r4=>bif (decide (r4≥0)) then (some (-1)) else ((tM r_1 2 eU ew).bind fun r5=>some r5)
def lX (c_1:Contract)(s_2:State)(aD:Int)(aE:ac)(r7:(List Int))(self:Int→Option ((Int×Bool)⊕Unit))(x8:Int):Option ((Int×Bool)⊕Unit):=
 bif (decide (x8<(len r7))) then ((aI r7 x8).bind fun e9=>(aI s_2.Duties e9).bind fun e10=>(aI c_1.Clauses e10.Clause).bind fun e11=>bif (e11.Action==aE) then (some (.inl (1,true))) else (self (aj (x8+1)))) else (some (.inr ()))
def mB (c_1:Contract)(s_2:State)(aD:Int)(aE:ac)(r7:(List Int)):Int→Option ((Int×Bool)⊕Unit):=aN (lX c_1 s_2 aD aE r7)
theorem AZ (c_1:Contract)(s_2:State)(aD:Int)(aE:ac)(r7:(List Int)):∀a,Fin1 fun f=>lX c_1 s_2 aD aE r7 f a:=by
 unfold lX
 repeat first|intro _|exact aZ|exact bz|apply bE|apply bi|apply bm|apply br|apply bF
theorem G1 (c_1:Contract)(s_2:State)(aD:Int)(aE:ac)(r7:(List Int))(x:Int):mB c_1 s_2 aD aE r7 x=lX c_1 s_2 aD aE r7 (mB c_1 s_2 aD aE r7) x:=bP (AZ c_1 s_2 aD aE r7) x
def Dn (c_1:Contract)(s_2:State)(aD:Int)(aE:ac):Option (Int×Bool):=
 (Ds c_1 s_2 aD).bind fun r5=>be (ρ:=Int×Bool) (bif (!r5) then (some (.inr true)) else ((qZ aE).bind fun r16=>some (.inr (!r16)))) fun u6:Bool=>bif u6 then (some (0,false)) else (bif s_2.Over then (some (0,true)) else ((Dq c_1 s_2 aD (-1)).bind fun r7=>be (ρ:=Int×Bool) (mB c_1 s_2 aD aE r7 0) fun u12:Unit=>(Kh (l9Run.mk c_1 s_2 false) aD aE).bind fun r13=>bif (decide (r13≥0)) then (some (2,true)) else ((tM (l9Run.mk c_1 s_2 false) 4 aD aE).bind fun r14=>bif (decide (r14≥0)) then (some (3,true)) else ((tM (l9Run.mk c_1 s_2 false) 3 aD aE).bind fun r15=>bif (decide (r15≥0)) then (some (4,true)) else (some (0,true))))))
def jq (n_1:Int)(po:Int)(ml:Int):Option Bool:=
 cz (bif (decide (n_1≥po)) then (decide (n_1≤ml)) else false) fun u4:Bool=>some u4
def Nd (s_1:ac)(c_2:Int):Option Int:=
 (sV s_1 c_2).bind fun r3=>some r3
def Na (s_1:ac)(bw:ac):Option Int:=
 cz (bif ((len bw)==0) then true else (bw==s_1)) fun u3:Bool=>bif u3 then (some 0) else (bif ((len bw)==1) then ((aI bw 0).bind fun c4=>(Nd s_1 (c4.toNat:Int)).bind fun r5=>some r5) else (bif (decide ((len bw)≥(len s_1))) then (some (-1)) else none))
def Ki (s_1:ac)(bw:ac):Option Int:=
 (Na s_1 bw).bind fun r3=>some r3
def tf (s_1:ac)(bw:ac)(self:(ac×Int)→Option (Int⊕Unit))(x5:ac×Int):Option (Int⊕Unit):=
 (Ki x5.1 bw).bind fun r6=>bif (r6==(-1)) then (some (.inl x5.2)) else ((lH x5.1 (aj (r6+(len bw))) (len x5.1)).bind fun s7=>self (s7,(aj (x5.2+1))))
def Q9 (s_1:ac)(bw:ac): (ac×Int)→Option (Int⊕Unit):=aN (tf s_1 bw)
theorem QB (s_1:ac)(bw:ac): ∀a,Fin1 fun f=>tf s_1 bw f a:=by
 unfold tf
 repeat first|intro _|exact aZ|exact bz|apply bE|apply bi|apply bm|apply br|apply bF
def N5 (s_1:ac)(bw:ac):Option Int:=
 bif ((len bw)==0) then none else (bif ((len bw)==1) then ((aI bw 0).bind fun c3=>(zy s_1 (c3.toNat:Int)).bind fun r4=>some r4) else (be (ρ:=Int) (Q9 s_1 bw (s_1,0)) fun u8:Unit=>none))
def tg (s_1:ac)(ek:ac)(dW:Int)(n_4:Int)(u5:Int)(self:(ac×Int×(List ac))→Option ((List ac)⊕(ac×Int×(List ac))))(x7:ac×Int×(List ac)):Option ((List ac)⊕(ac×Int×(List ac))):=
 bif (decide (x7.2.1<(aj ((if (aj ((len s_1)+1))<u5 then (aj ((len s_1)+1)) else u5) - 1)))) then ((Ki x7.1 ek).bind fun r8=>bif (decide (r8<0)) then (some (.inr (x7.1,x7.2.1,x7.2.2))) else ((lH x7.1 0 (aj (r8+dW))).bind fun s9=>(aI x7.2.2 x7.2.1).bind fun e10=>(lH x7.1 (aj (r8+(len ek))) (len x7.1)).bind fun s11=>self (s11,(aj (x7.2.1+1)),(dM x7.2.2 x7.2.1 s9)))) else (some (.inr (x7.1,x7.2.1,x7.2.2)))
def zH (s_1:ac)(ek:ac)(dW:Int)(n_4:Int)(u5:Int):(ac×Int×(List ac))→Option ((List ac)⊕(ac×Int×(List ac))):=aN (tg s_1 ek dW n_4 u5)
theorem Bp (s_1:ac)(ek:ac)(dW:Int)(n_4:Int)(u5:Int):∀a,Fin1 fun f=>tg s_1 ek dW n_4 u5 f a:=by
 unfold tg
 repeat first|intro _|exact aZ|exact bz|apply bE|apply bi|apply bm|apply br|apply bF
def N8 (s_1:ac)(ek:ac)(dW:Int)(n_4:Int):Option (List ac):=
 bif (n_4==0) then (some []) else (bif (ek==([]:ac)) then none else (be (ρ:=(List ac)) (bif (decide (n_4<0)) then ((N5 s_1 ek).bind fun r16=>some (.inr (aj (r16+1)))) else (some (.inr n_4))) fun u5:Int=>(tz 16 [] (if (aj ((len s_1)+1))<u5 then (aj ((len s_1)+1)) else u5)).bind fun m6=>be (ρ:=(List ac)) (zH s_1 ek dW n_4 u5 (s_1,0,m6)) fun u12:ac×Int×(List ac)=>(aI u12.2.2 u12.2.1).bind fun e13=>(jY (dM u12.2.2 u12.2.1 u12.1).length 0 (aj (u12.2.1+1))).bind fun s14=>(kc (dM u12.2.2 u12.2.1 u12.1) (0+Int.toNat (0)) (Int.toNat (aj (u12.2.1+1)) - Int.toNat (0))).bind fun p15=>some p15))
def D1 (s_1:ac)(ek:ac):Option (List ac):=
 (N8 s_1 ek 0 (-1)).bind fun r3=>some r3
def kz (s_1:List ac)(v_2:ac)(self:Int→Option (Int⊕Unit))(x3:Int):Option (Int⊕Unit):=
 bif (decide (x3<(len s_1))) then ((aI s_1 x3).bind fun e4=>bif (v_2==e4) then (some (.inl x3)) else (self (aj (x3+1)))) else (some (.inr ()))
def pO (s_1:List ac)(v_2:ac): Int→Option (Int⊕Unit):=aN (kz s_1 v_2)
theorem AK (s_1:List ac)(v_2:ac): ∀a,Fin1 fun f=>kz s_1 v_2 f a:=by
 unfold kz
 repeat first|intro _|exact aZ|exact bz|apply bE|apply bi|apply bm|apply br|apply bF
theorem vW (s_1:List ac)(v_2:ac)(x:Int):pO s_1 v_2 x=kz s_1 v_2 (pO s_1 v_2) x:=bP (AK s_1 v_2) x
def xN (s_1:List ac)(v_2:ac):Option Int:=
 be (ρ:=Int) (pO s_1 v_2 0) fun u5:Unit=>some (-1)
def oV (s_1:List ac)(v_2:ac):Option Bool:=
 (xN s_1 v_2).bind fun r3=>some (decide (r3≥0))
def pV (s_1:ac)(self:Int→Option (Bool⊕Unit))(x4:Int):Option (Bool⊕Unit):=
 bif (decide (x4<(len s_1))) then ((aI s_1 x4).bind fun c5=>cz (bif (decide ((c5.toNat:Int)<97)) then (cz (bif (decide ((c5.toNat:Int)<48)) then true else (decide ((c5.toNat:Int)>57))) fun u7:Bool=>u7) else (cz (bif (decide ((c5.toNat:Int)>122)) then (cz (bif (decide ((c5.toNat:Int)<48)) then true else (decide ((c5.toNat:Int)>57))) fun u9:Bool=>u9) else false) fun u8:Bool=>u8)) fun u6:Bool=>bif u6 then (some (.inl false)) else (self (aj (x4+1)))) else (some (.inr ()))
def yB (s_1:ac): Int→Option (Bool⊕Unit):=aN (pV s_1)
theorem Iw (s_1:ac): ∀a,Fin1 fun f=>pV s_1 f a:=by
 unfold pV
 repeat first|intro _|exact aZ|exact bz|apply bE|apply bi|apply bm|apply br|apply bF
theorem Xh (s_1:ac)(x:Int):yB s_1 x=pV s_1 (yB s_1) x:=bP (Iw s_1) x
def vj (s_1:ac):Option Bool:=
 (jq (len s_1) 1 8).bind fun r2=>be (ρ:=Bool) (bif (!r2) then (some (.inr true)) else ((aI s_1 0).bind fun c13=>ch (ρ:=Bool) (bif (decide ((c13.toNat:Int)<97)) then (some (.inr true)) else ((aI s_1 0).bind fun c15=>some (.inr (decide ((c15.toNat:Int)>122))))) fun u14:Bool=>some (.inr u14))) fun u3:Bool=>bif u3 then (some false) else (be (ρ:=Bool) (yB s_1 0) fun u10:Unit=>(D1 ([116,114,117,101,32,102,114,111,109,32,110,111,116,32,97,110,100,32,111,114,32,98,111,116,104,32,101,105,116,104,101,114,32,105,116,32,105,110]:ac) ([32]:ac)).bind fun r11=>(oV r11 s_1).bind fun r12=>some (!r12))
def nC (ay:List ac)(self:Int→Option (Bool⊕Unit))(x2:Int):Option (Bool⊕Unit):=
 bif (decide (x2<(len ay))) then ((aI ay x2).bind fun e3=>(vj e3).bind fun r4=>ch (ρ:=Bool) (bif (!r4) then (some (.inr true)) else ((lH ay 0 x2).bind fun s6=>(oV s6 e3).bind fun r7=>some (.inr r7))) fun u5:Bool=>bif u5 then (some (.inl false)) else (self (aj (x2+1)))) else (some (.inr ()))
def yC (ay:List ac): Int→Option (Bool⊕Unit):=aN (nC ay)
theorem IC (ay:List ac): ∀a,Fin1 fun f=>nC ay f a:=by
 unfold nC
 repeat first|intro _|exact aZ|exact bz|apply bE|apply bi|apply bm|apply br|apply bF
theorem Lc (ay:List ac)(x:Int):yC ay x=nC ay (yC ay) x:=bP (IC ay) x
def Oa (ay:List ac):Option Bool:=
 be (ρ:=Bool) (yC ay 0) fun u8:Unit=>(jq (len ay) 2 4).bind fun r9=>some r9
def Xk (x_1:Clause)(a_2:ac):Option Bool:=
 some (x_1.Id==a_2)
def oa (s_1:List Clause)(f_2:ac)(self:Int→Option (Int⊕Unit))(x3:Int):Option (Int⊕Unit):=
 bif (decide (x3<(len s_1))) then ((aI s_1 x3).bind fun e4=>(Xk e4 f_2).bind fun r5=>bif r5 then (some (.inl x3)) else (self (aj (x3+1)))) else (some (.inr ()))
def uB (s_1:List Clause)(f_2:ac): Int→Option (Int⊕Unit):=aN (oa s_1 f_2)
theorem AD (s_1:List Clause)(f_2:ac): ∀a,Fin1 fun f=>oa s_1 f_2 f a:=by
 unfold oa
 repeat first|intro _|exact aZ|exact bz|apply bE|apply bi|apply bm|apply br|apply bF
theorem R6 (s_1:List Clause)(f_2:ac)(x:Int):uB s_1 f_2 x=oa s_1 f_2 (uB s_1 f_2) x:=bP (AD s_1 f_2) x
def JZ (s_1:List Clause)(f_2:ac):Option Int:=
 be (ρ:=Int) (uB s_1 f_2 0) fun u6:Unit=>some (-1)
def ID (c_1:Contract)(fG:ac):Option Int:=
 (JZ c_1.Clauses fG).bind fun r3=>some r3
def pD (ix:Int):Option Bool:=
 (jq ix 0 36524).bind fun r2=>some r2
def mg (bu:(Condition×Int)→Option Int)(c_1:Condition)(cX:Int)(self:(Int×Int)→Option (Int⊕Int))(x5:Int×Int):Option (Int⊕Int):=
 bif (decide (x5.2<(len c_1.Parts))) then ((aI c_1.Parts x5.2).bind fun e6=>(bu (e6,x5.1)).bind fun r7=>bif (decide (r7<0)) then (some (.inl (-1))) else (self (r7,(aj (x5.2+1))))) else (some (.inr x5.1))
def na (bu:(Condition×Int)→Option Int)(c_1:Condition)(cX:Int): (Int×Int)→Option (Int⊕Int):=aN (mg bu c_1 cX)
theorem IH (bu:(Condition×Int)→Option Int)(c_1:Condition)(cX:Int): ∀a,Fin1 fun f=>mg bu c_1 cX f a:=by
 unfold mg
 repeat first|intro _|exact aZ|exact bz|apply bE|apply bi|apply bm|apply br|apply bF
theorem Ld (bu:(Condition×Int)→Option Int)(c_1:Condition)(cX:Int)(x:Int×Int):na bu c_1 cX x=mg bu c_1 cX (na bu c_1 cX) x:=bP (IH bu c_1 cX) x
def zL (bu:(Condition×Int)→Option Int)(c_1:Condition)(cX:Int):Option Int:=
 be (ρ:=Int) (bif (decide ((aj (cX+1))>15)) then (some (.inr true)) else ((jq c_1.Op 1 6).bind fun r20=>ch (ρ:=Int) (bif (!r20) then (some (.inr true)) else ((aI [(-1),0,0,0,1,2,2] c_1.Op).bind fun e22=>some (.inr ((len c_1.Parts) != e22)))) fun u21:Bool=>some (.inr u21))) fun u3:Bool=>bif u3 then (some (-1)) else (be (ρ:=Int) (bif (!((c_1.Op==2)==(!(c_1.Name==([]:ac))))) then (some (.inr true)) else (ch (ρ:=Int) (bif (c_1.Op==2) then ((vj c_1.Name).bind fun r10=>ch (ρ:=Int) (bif (!r10) then (some (.inr true)) else (ch (ρ:=Int) (bif (c_1.Op != 3) then (ch (ρ:=Int) (bif (c_1.Day != 0) then (some (.inr true)) else ((pD c_1.Day).bind fun r14=>some (.inr (!r14)))) fun u13:Bool=>some (.inr u13)) else ((pD c_1.Day).bind fun r15=>some (.inr (!r15)))) fun u12:Bool=>some (.inr u12))) fun u11:Bool=>some (.inr u11)) else (ch (ρ:=Int) (bif (c_1.Op != 3) then (ch (ρ:=Int) (bif (c_1.Day != 0) then (some (.inr true)) else ((pD c_1.Day).bind fun r18=>some (.inr (!r18)))) fun u17:Bool=>some (.inr u17)) else ((pD c_1.Day).bind fun r19=>some (.inr (!r19)))) fun u16:Bool=>some (.inr u16))) fun u9:Bool=>some (.inr u9))) fun u4:Bool=>bif u4 then (some (-1)) else (be (ρ:=Int) (na bu c_1 cX ((aj (cX+1)),0)) fun u8:Int=>some u8))
def nk (bu:(Condition×Int)→Option Int)(x:Condition×Int):Option Int:=zL bu x.1 x.2
def Xl (c_1:Condition)(cX:Int):Option Int:=aN nk (c_1,cX)
theorem acY:∀x,Fin1 fun bu=>nk bu x:=by
 unfold nk zL
 repeat first|intro _|exact aZ|exact bz|exact kq|exact mJ|exact je|exact kQ|exact jF|exact jG|apply bE|apply bi|apply bm|apply br|apply bF|apply rz|unfold na|unfold mg
theorem agH (c_1:Condition)(cX:Int):Xl c_1 cX=zL (aN nk) c_1 cX:=bP acY (c_1,cX)
def NP (c_1:Condition):Option Bool:=
 (Xl c_1 0).bind fun r2=>some (decide (r2>0))
def Oe (c_1:Contract)(i_2:Int):Option Bool:=
 (aI c_1.Clauses i_2).bind fun e3=>(vj e3.Id).bind fun r4=>be (ρ:=Bool) (bif (!r4) then (some (.inr true)) else ((ID c_1 e3.Id).bind fun r23=>ch (ρ:=Bool) (bif (r23 != i_2) then (some (.inr true)) else ((vj e3.Action).bind fun r25=>ch (ρ:=Bool) (bif (!r25) then (some (.inr true)) else ((jq e3.Kind 1 4).bind fun r27=>some (.inr (!r27)))) fun u26:Bool=>some (.inr u26))) fun u24:Bool=>some (.inr u24))) fun u5:Bool=>bif u5 then (some false) else ((jq e3.Party 0 (aj ((len c_1.Parties) - 1))).bind fun r6=>be (ρ:=Bool) (bif (!r6) then (some (.inr true)) else ((jq e3.Other 0 (aj ((len c_1.Parties) - 1))).bind fun r19=>ch (ρ:=Bool) (bif (!r19) then (some (.inr true)) else (ch (ρ:=Bool) (bif (e3.Party==e3.Other) then (some (.inr true)) else ((NP e3.When).bind fun r22=>some (.inr (!r22)))) fun u21:Bool=>some (.inr u21))) fun u20:Bool=>some (.inr u20))) fun u7:Bool=>bif u7 then (some false) else ((jq e3.Amount 0 1000000).bind fun r8=>be (ρ:=Bool) (bif (!r8) then (some (.inr true)) else ((jq e3.Within 0 400).bind fun r15=>cz (bif (!r15) then true else (cz (bif (e3.Kind != 1) then (cz (bif (e3.Amount != 0) then true else (e3.Within != 0)) fun u18:Bool=>u18) else false) fun u17:Bool=>u17)) fun u16:Bool=>some (.inr u16))) fun u9:Bool=>bif u9 then (some false) else (bif (e3.Repair==([]:ac)) then (some true) else ((ID c_1 e3.Repair).bind fun r10=>be (ρ:=Bool) (bif (e3.Kind != 3) then (ch (ρ:=Bool) (bif (decide (r10≥0)) then (ch (ρ:=Bool) (bif (r10 != i_2) then ((aI c_1.Clauses r10).bind fun e14=>some (.inr (e14.Kind==1))) else (some (.inr false))) fun u13:Bool=>some (.inr u13)) else (some (.inr false))) fun u12:Bool=>some (.inr u12)) else (some (.inr false))) fun u11:Bool=>some u11))))
def mf (cW:(Condition×(List ac))→Option (List ac))(c_3:Condition)(d8:List ac)(self:(Int×(List ac))→Option ((List ac)⊕(List ac)))(x4:Int×(List ac)):Option ((List ac)⊕(List ac)):=
 bif (decide (x4.1<(len c_3.Parts))) then ((aI c_3.Parts x4.1).bind fun e5=>(cW (e5,x4.2)).bind fun r6=>self ((aj (x4.1+1)),r6)) else (some (.inr x4.2))
def o9 (cW:(Condition×(List ac))→Option (List ac))(c_3:Condition)(d8:List ac): (Int×(List ac))→Option ((List ac)⊕(List ac)):=aN (mf cW c_3 d8)
theorem IA (cW:(Condition×(List ac))→Option (List ac))(c_3:Condition)(d8:List ac): ∀a,Fin1 fun f=>mf cW c_3 d8 f a:=by
 unfold mf
 repeat first|intro _|exact aZ|exact bz|apply bE|apply bi|apply bm|apply br|apply bF
theorem Lb (cW:(Condition×(List ac))→Option (List ac))(c_3:Condition)(d8:List ac)(x:Int×(List ac)):o9 cW c_3 d8 x=mf cW c_3 d8 (o9 cW c_3 d8) x:=bP (IA cW c_3 d8) x
def zK (cW:(Condition×(List ac))→Option (List ac))(c_3:Condition)(d8:List ac):Option (List ac):=
 be (ρ:=(List ac)) (bif (c_3.Op==2) then ((gP 16 d8 [c_3.Name]).bind fun a8=>some (.inr a8)) else (some (.inr d8))) fun u3:(List ac)=>be (ρ:=(List ac)) (o9 cW c_3 d8 (0,u3)) fun u7:(List ac)=>some u7
def o8 (cW:(Condition×(List ac))→Option (List ac))(x:Condition×(List ac)):Option (List ac):=zK cW x.1 x.2
def Xi (c_3:Condition)(d8:List ac):Option (List ac):=aN o8 (c_3,d8)
theorem acT:∀x,Fin1 fun cW=>o8 cW x:=by
 unfold o8 zK
 repeat first|intro _|exact aZ|exact bz|exact kq|exact mJ|exact je|exact kQ|exact jF|exact jG|apply bE|apply bi|apply bm|apply br|apply bF|apply rz|unfold o9|unfold mf
theorem agG (c_3:Condition)(d8:List ac):Xi c_3 d8=zK (aN o8) c_3 d8:=bP acT (c_3,d8)
def lV (s_2:List ac)(x2:Int)(self:(Int×Int×(List ac))→Option ((List ac)⊕(Int×(List ac))))(x6:Int×Int×(List ac)):Option ((List ac)⊕(Int×(List ac))):=
 bif (decide (x6.2.1<(((Int.toNat (len s_2) - Int.toNat x2):Nat):Int))) then ((wC x6.2.2 (0+Int.toNat x2) (Int.toNat (len s_2) - Int.toNat x2) x6.2.1).bind fun e7=>(wC x6.2.2 (0+Int.toNat x2) (Int.toNat (len s_2) - Int.toNat x2) (aj (x6.2.1 - 1))).bind fun e8=>ch (ρ:=(List ac)) (bif (!(e7==e8)) then ((wC x6.2.2 (0+Int.toNat x2) (Int.toNat (len s_2) - Int.toNat x2) x6.2.1).bind fun e10=>(aI x6.2.2 x6.1).bind fun e11=>some (.inr ((aj (x6.1+1)),(dM x6.2.2 x6.1 e10)))) else (some (.inr (x6.1,x6.2.2)))) fun u9:Int×(List ac)=>self (u9.1,(aj (x6.2.1+1)),u9.2)) else (some (.inr (x6.1,x6.2.2)))
def ls (s_2:List ac)(x2:Int):(Int×Int×(List ac))→Option ((List ac)⊕(Int×(List ac))):=aN (lV s_2 x2)
theorem AC (s_2:List ac)(x2:Int):∀a,Fin1 fun f=>lV s_2 x2 f a:=by
 unfold lV
 repeat first|intro _|exact aZ|exact bz|apply bE|apply bi|apply bm|apply br|apply bF
theorem F9 (s_2:List ac)(x2:Int)(x:Int×Int×(List ac)):ls s_2 x2 x=lV s_2 x2 (ls s_2 x2) x:=bP (AC s_2 x2) x
def lU (s_2:List ac)(self:Int→Option ((List ac)⊕(List ac)))(x2:Int):Option ((List ac)⊕(List ac)):=
 bif (decide (x2<(len s_2))) then ((aI s_2 x2).bind fun e3=>(aI s_2 (aj (x2 - 1))).bind fun e4=>bif (e3==e4) then ((jY s_2.length x2 (len s_2)).bind fun s5=>ch (ρ:=(List ac)) (ls s_2 x2 (x2,1,s_2)) fun u15:Int×(List ac)=>(jY u15.2.length u15.1 (len u15.2)).bind fun s16=>(yN u15.2 (0+Int.toNat u15.1) (Int.toNat (len u15.2) - Int.toNat u15.1) []).bind fun k17=>(jY k17.length 0 u15.1).bind fun s18=>(kc k17 (0+Int.toNat (0)) (Int.toNat u15.1 - Int.toNat (0))).bind fun p19=>some (.inl p19)) else (self (aj (x2+1)))) else (some (.inr s_2))
def rU (s_2:List ac): Int→Option ((List ac)⊕(List ac)):=aN (lU s_2)
theorem AB (s_2:List ac): ∀a,Fin1 fun f=>lU s_2 f a:=by
 unfold lU
 repeat first|intro _|exact aZ|exact bz|apply bE|apply bi|apply bm|apply br|apply bF
theorem F8 (s_2:List ac)(x:Int):rU s_2 x=lU s_2 (rU s_2) x:=bP (AB s_2) x
def C1 (s_2:List ac):Option (List ac):=
 bif (decide ((len s_2)<2)) then (some s_2) else (be (ρ:=(List ac)) (rU s_2 1) fun u20:(List ac)=>some u20)
def B8 (ks:List ac):Option (List ac):=
 (vO ks).bind fun r2=>bif Nat.beq r2.length ks.length then ((C1 r2).bind fun r4=>some r4) else none
def nE (c_1:Contract)(self:(Int×(List ac))→Option ((List ac)⊕(List ac)))(x2:Int×(List ac)):Option ((List ac)⊕(List ac)):=
 bif (decide (x2.1<(len c_1.Clauses))) then ((aI c_1.Clauses x2.1).bind fun e3=>(gP 16 x2.2 [e3.Action]).bind fun a4=>(Xi e3.When a4).bind fun r5=>self ((aj (x2.1+1)),r5)) else (some (.inr x2.2))
def qJ (c_1:Contract): (Int×(List ac))→Option ((List ac)⊕(List ac)):=aN (nE c_1)
theorem IO (c_1:Contract): ∀a,Fin1 fun f=>nE c_1 f a:=by
 unfold nE
 repeat first|intro _|exact aZ|exact bz|apply bE|apply bi|apply bm|apply br|apply bF
theorem Lg (c_1:Contract)(x:Int×(List ac)):qJ c_1 x=nE c_1 (qJ c_1) x:=bP (IO c_1) x
def vm (c_1:Contract):Option (List ac):=
 be (ρ:=(List ac)) (qJ c_1 (0,[])) fun u6:(List ac)=>(B8 u6).bind fun r7=>some r7
def nB (c_1:Contract)(self:Int→Option (Bool⊕Unit))(x4:Int):Option (Bool⊕Unit):=
 bif (decide (x4<(len c_1.Clauses))) then ((Oe c_1 x4).bind fun r5=>bif (!r5) then (some (.inl false)) else (self (aj (x4+1)))) else (some (.inr ()))
def o7 (c_1:Contract): Int→Option (Bool⊕Unit):=aN (nB c_1)
theorem Io (c_1:Contract): ∀a,Fin1 fun f=>nB c_1 f a:=by
 unfold nB
 repeat first|intro _|exact aZ|exact bz|apply bE|apply bi|apply bm|apply br|apply bF
theorem K9 (c_1:Contract)(x:Int):o7 c_1 x=nB c_1 (o7 c_1) x:=bP (Io c_1) x
def N7 (c_1:Contract):Option Bool:=
 (Oa c_1.Parties).bind fun r2=>be (ρ:=Bool) (bif (!r2) then (some (.inr true)) else ((jq (len c_1.Clauses) 1 12).bind fun r8=>some (.inr (!r8)))) fun u3:Bool=>bif u3 then (some false) else (be (ρ:=Bool) (o7 c_1 0) fun u6:Unit=>(vm c_1).bind fun r7=>some (decide ((len r7)≤16)))
def nF (cu:List ac)(self:Int→Option (Bool⊕Unit))(x2:Int):Option (Bool⊕Unit):=
 bif (decide (x2<(len cu))) then ((aI cu x2).bind fun e3=>(vj e3).bind fun r4=>ch (ρ:=Bool) (bif (!r4) then (some (.inr true)) else (ch (ρ:=Bool) (bif (decide (x2>0)) then ((aI cu (aj (x2 - 1))).bind fun e7=>some (.inr (Op.bytesLess e3 e7||e3==e7))) else (some (.inr false))) fun u6:Bool=>some (.inr u6))) fun u5:Bool=>bif u5 then (some (.inl false)) else (self (aj (x2+1)))) else (some (.inr ()))
def pb (cu:List ac): Int→Option (Bool⊕Unit):=aN (nF cu)
theorem IR (cu:List ac): ∀a,Fin1 fun f=>nF cu f a:=by
 unfold nF
 repeat first|intro _|exact aZ|exact bz|apply bE|apply bi|apply bm|apply br|apply bF
theorem Lh (cu:List ac)(x:Int):pb cu x=nF cu (pb cu) x:=bP (IR cu) x
def Ol (cu:List ac):Option Bool:=
 be (ρ:=Bool) (pb cu 0) fun u8:Unit=>some (decide ((len cu)≤16))
def BV (f_1:ac)(a_2:List ac):Option Bool:=
 (oV a_2 f_1).bind fun r3=>some (!r3)
def ol (s_1:List ac)(f_2:(List ac))(self:Int→Option (Int⊕Unit))(x3:Int):Option (Int⊕Unit):=
 bif (decide (x3<(len s_1))) then ((aI s_1 x3).bind fun e4=>(BV e4 f_2).bind fun r5=>bif r5 then (some (.inl x3)) else (self (aj (x3+1)))) else (some (.inr ()))
def uH (s_1:List ac)(f_2:(List ac)): Int→Option (Int⊕Unit):=aN (ol s_1 f_2)
theorem AJ (s_1:List ac)(f_2:(List ac)): ∀a,Fin1 fun f=>ol s_1 f_2 f a:=by
 unfold ol
 repeat first|intro _|exact aZ|exact bz|apply bE|apply bi|apply bm|apply br|apply bF
theorem Sc (s_1:List ac)(f_2:(List ac))(x:Int):uH s_1 f_2 x=ol s_1 f_2 (uH s_1 f_2) x:=bP (AJ s_1 f_2) x
def J6 (s_1:List ac)(f_2:(List ac)):Option Int:=
 be (ρ:=Int) (uH s_1 f_2 0) fun u6:Unit=>some (-1)
def JY (s_1:List ac)(f_2:(List ac)):Option Bool:=
 (J6 s_1 f_2).bind fun r3=>some (decide (r3≥0))
def sY (ay:List Int)(self:(Int×Int)→Option (Int⊕Int))(x2:Int×Int):Option (Int⊕Int):=
 bif (decide (x2.2<(len ay))) then ((aI ay x2.2).bind fun e3=>self ((aj (x2.1+e3)),(aj (x2.2+1)))) else (some (.inr x2.1))
def JP (ay:List Int): (Int×Int)→Option (Int⊕Int):=aN (sY ay)
theorem PF (ay:List Int): ∀a,Fin1 fun f=>sY ay f a:=by
 unfold sY
 repeat first|intro _|exact aZ|exact bz|apply bE|apply bi|apply bm|apply br|apply bF
def xp (ay:List Int):Option Int:=
 be (ρ:=Int) (JP ay (0,0)) fun u4:Int=>some u4
def Oj (x_1:Clause)(a_2:Contract)(a_3:Int):Option Bool:=
 (aI a_2.Clauses a_3).bind fun e4=>some (x_1.Repair==e4.Id)
def ob (s_1:List Clause)(f_2:Contract×Int)(self:Int→Option (Int⊕Unit))(x3:Int):Option (Int⊕Unit):=
 bif (decide (x3<(len s_1))) then ((aI s_1 x3).bind fun e4=>(Oj e4 f_2.1 f_2.2).bind fun r5=>bif r5 then (some (.inl x3)) else (self (aj (x3+1)))) else (some (.inr ()))
def uC (s_1:List Clause)(f_2:Contract×Int): Int→Option (Int⊕Unit):=aN (ob s_1 f_2)
theorem AE (s_1:List Clause)(f_2:Contract×Int): ∀a,Fin1 fun f=>ob s_1 f_2 f a:=by
 unfold ob
 repeat first|intro _|exact aZ|exact bz|apply bE|apply bi|apply bm|apply br|apply bF
theorem R7 (s_1:List Clause)(f_2:Contract×Int)(x:Int):uC s_1 f_2 x=ob s_1 f_2 (uC s_1 f_2) x:=bP (AE s_1 f_2) x
def J0 (s_1:List Clause)(f_2:Contract×Int):Option Int:=
 be (ρ:=Int) (uC s_1 f_2 0) fun u6:Unit=>some (-1)
def JT (s_1:List Clause)(f_2:Contract×Int):Option Bool:=
 (J0 s_1 (f_2.1,f_2.2)).bind fun r3=>some (decide (r3≥0))
def Oi (c_1:Contract)(i_2:Int):Option Bool:=
 (JT c_1.Clauses (c_1,i_2)).bind fun r3=>some r3
def Rb (kv:Duty)(a_2:Duty):Option Bool:=
 some (kv.Clause==a_2.Clause)
def od (s_1:List Duty)(f_2:Duty)(self:Int→Option (Int⊕Unit))(x3:Int):Option (Int⊕Unit):=
 bif (decide (x3<(len s_1))) then ((aI s_1 x3).bind fun e4=>(Rb e4 f_2).bind fun r5=>bif r5 then (some (.inl x3)) else (self (aj (x3+1)))) else (some (.inr ()))
def uE (s_1:List Duty)(f_2:Duty): Int→Option (Int⊕Unit):=aN (od s_1 f_2)
theorem AG (s_1:List Duty)(f_2:Duty): ∀a,Fin1 fun f=>od s_1 f_2 f a:=by
 unfold od
 repeat first|intro _|exact aZ|exact bz|apply bE|apply bi|apply bm|apply br|apply bF
theorem R9 (s_1:List Duty)(f_2:Duty)(x:Int):uE s_1 f_2 x=od s_1 f_2 (uE s_1 f_2) x:=bP (AG s_1 f_2) x
def J2 (s_1:List Duty)(f_2:Duty):Option Int:=
 be (ρ:=Int) (uE s_1 f_2 0) fun u6:Unit=>some (-1)
def JV (s_1:List Duty)(f_2:Duty):Option Bool:=
 (J2 s_1 f_2).bind fun r3=>some (decide (r3≥0))
def Ok (c_1:Contract)(s_2:State)(i_3:Int):Option Bool:=
 (aI s_2.Duties i_3).bind fun e4=>(jq e4.Clause 0 (aj ((len c_1.Clauses) - 1))).bind fun r5=>be (ρ:=Bool) (bif (!r5) then (some (.inr true)) else ((aI c_1.Clauses e4.Clause).bind fun e18=>ch (ρ:=Bool) (bif (e18.Kind != 1) then (some (.inr true)) else ((jq e4.Since 0 s_2.Day).bind fun r20=>some (.inr (!r20)))) fun u19:Bool=>some (.inr u19))) fun u6:Bool=>bif u6 then (some false) else ((aI c_1.Clauses e4.Clause).bind fun e7=>be (ρ:=Bool) (bif (e4.Due != (aj (e4.Since+e7.Within))) then (some (.inr true)) else ((pD e4.Due).bind fun r14=>ch (ρ:=Bool) (bif (!r14) then (some (.inr true)) else (ch (ρ:=Bool) (bif (decide (i_3>0)) then ((aI s_2.Duties (aj (i_3 - 1))).bind fun e17=>some (.inr (decide (e4.Since<e17.Since)))) else (some (.inr false))) fun u16:Bool=>some (.inr u16))) fun u15:Bool=>some (.inr u15))) fun u8:Bool=>bif u8 then (some false) else ((Oi c_1 e4.Clause).bind fun r9=>be (ρ:=Bool) (bif (!r9) then ((lH s_2.Duties 0 i_3).bind fun s12=>(JV s12 e4).bind fun r13=>some (.inr r13)) else (some (.inr false))) fun u10:Bool=>bif u10 then (some false) else (bif (e4.Status==1) then (cz (bif (decide (e4.Due≥s_2.Day)) then (!s_2.Over) else false) fun u11:Bool=>some u11) else (bif (e4.Status==2) then (some true) else (bif (e4.Status==3) then (some (decide (e4.Due<s_2.Day))) else (bif (e4.Status==4) then (some s_2.Over) else (some false)))))))
def Ra (x_1:Int):Option Bool:=
 (jq x_1 (-1000000000) 1000000000).bind fun r2=>some r2
def BX (b_1:Int):Option Bool:=
 (Ra b_1).bind fun r2=>some (!r2)
def oh (s_1:List Int)(f_2:Unit)(self:Int→Option (Int⊕Unit))(x3:Int):Option (Int⊕Unit):=
 bif (decide (x3<(len s_1))) then ((aI s_1 x3).bind fun e4=>(BX e4).bind fun r5=>bif r5 then (some (.inl x3)) else (self (aj (x3+1)))) else (some (.inr ()))
def uG (s_1:List Int)(f_2:Unit): Int→Option (Int⊕Unit):=aN (oh s_1 f_2)
theorem AI (s_1:List Int)(f_2:Unit): ∀a,Fin1 fun f=>oh s_1 f_2 f a:=by
 unfold oh
 repeat first|intro _|exact aZ|exact bz|apply bE|apply bi|apply bm|apply br|apply bF
theorem Sb (s_1:List Int)(f_2:Unit)(x:Int):uG s_1 f_2 x=oh s_1 f_2 (uG s_1 f_2) x:=bP (AI s_1 f_2) x
def J5 (s_1:List Int)(f_2:Unit):Option Int:=
 be (ρ:=Int) (uG s_1 f_2 0) fun u6:Unit=>some (-1)
def JX (s_1:List Int)(f_2:Unit):Option Bool:=
 (J5 s_1 ()).bind fun r3=>some (decide (r3≥0))
def nG (c_1:Contract)(s_2:State)(self:Int→Option (Bool⊕Unit))(x7:Int):Option (Bool⊕Unit):=
 bif (decide (x7<(len s_2.Duties))) then ((Ok c_1 s_2 x7).bind fun r8=>bif (!r8) then (some (.inl false)) else (self (aj (x7+1)))) else (some (.inr ()))
def qK (c_1:Contract)(s_2:State): Int→Option (Bool⊕Unit):=aN (nG c_1 s_2)
theorem IT (c_1:Contract)(s_2:State): ∀a,Fin1 fun f=>nG c_1 s_2 f a:=by
 unfold nG
 repeat first|intro _|exact aZ|exact bz|apply bE|apply bi|apply bm|apply br|apply bF
theorem Li (c_1:Contract)(s_2:State)(x:Int):qK c_1 s_2 x=nG c_1 s_2 (qK c_1 s_2) x:=bP (IT c_1 s_2) x
def Om (c_1:Contract)(s_2:State):Option Bool:=
 (vm c_1).bind fun r3=>(pD s_2.Day).bind fun r4=>be (ρ:=Bool) (bif (!r4) then (some (.inr true)) else ((Ol s_2.Facts).bind fun r13=>ch (ρ:=Bool) (bif (!r13) then (some (.inr true)) else ((JY s_2.Facts r3).bind fun r15=>some (.inr r15))) fun u14:Bool=>some (.inr u14))) fun u5:Bool=>bif u5 then (some false) else (be (ρ:=Bool) (bif (decide ((len s_2.Duties)>24)) then (some (.inr true)) else (ch (ρ:=Bool) (bif ((len s_2.Balances) != (len c_1.Parties)) then (some (.inr true)) else ((xp s_2.Balances).bind fun r12=>some (.inr (r12 != 0)))) fun u11:Bool=>some (.inr u11))) fun u6:Bool=>bif u6 then (some false) else (be (ρ:=Bool) (qK c_1 s_2 0) fun u9:Unit=>(JX s_2.Balances ()).bind fun r10=>some (!r10)))
def La (c_1:Contract)(s_2:State):Option Bool:=
 (N7 c_1).bind fun r3=>be (ρ:=Bool) (bif r3 then ((Om c_1 s_2).bind fun r5=>some (.inr r5)) else (some (.inr false))) fun u4:Bool=>some u4
def BT (p_1:Int)(a_2:Contract):Option Bool:=
 (jq p_1 0 (aj ((len a_2.Parties) - 1))).bind fun r3=>some (!r3)
def oe (s_1:List Int)(f_2:Contract)(self:Int→Option (Int⊕Unit))(x3:Int):Option (Int⊕Unit):=
 bif (decide (x3<(len s_1))) then ((aI s_1 x3).bind fun e4=>(BT e4 f_2).bind fun r5=>bif r5 then (some (.inl x3)) else (self (aj (x3+1)))) else (some (.inr ()))
def uF (s_1:List Int)(f_2:Contract): Int→Option (Int⊕Unit):=aN (oe s_1 f_2)
theorem AH (s_1:List Int)(f_2:Contract): ∀a,Fin1 fun f=>oe s_1 f_2 f a:=by
 unfold oe
 repeat first|intro _|exact aZ|exact bz|apply bE|apply bi|apply bm|apply br|apply bF
theorem Sa (s_1:List Int)(f_2:Contract)(x:Int):uF s_1 f_2 x=oe s_1 f_2 (uF s_1 f_2) x:=bP (AH s_1 f_2) x
def J4 (s_1:List Int)(f_2:Contract):Option Int:=
 be (ρ:=Int) (uF s_1 f_2 0) fun u6:Unit=>some (-1)
def JW (s_1:List Int)(f_2:Contract):Option Bool:=
 (J4 s_1 f_2).bind fun r3=>some (decide (r3≥0))
def BR (c_1:Contract)(s_2:State)(gE:List Int):Option Bool:=
 (La c_1 s_2).bind fun r4=>be (ρ:=Bool) (bif r4 then ((JW gE c_1).bind fun r6=>some (.inr (!r6))) else (some (.inr false))) fun u5:Bool=>some u5
def CZ (s_1:List ac):Option (List ac):=
 zd s_1 (some []) ((gP 16 ([]:List ac) s_1).bind fun a2=>some a2)
def CV (s_1:List Duty):Option (List Duty):=
 zd s_1 (some []) ((gP 32 ([]:List Duty) s_1).bind fun a2=>some a2)
def CX (s_1:List Int):Option (List Int):=
 zd s_1 (some []) ((gP 8 ([]:List Int) s_1).bind fun a2=>some a2)
def B6 (s_1:State):Option State:=
 (CZ s_1.Facts).bind fun r2=>(CV s_1.Duties).bind fun r3=>(CX s_1.Balances).bind fun r4=>some (State.mk s_1.Day r2 r3 r4 s_1.Over)
def B0 (c_1:Contract)(s_2:State):Option machine:=
 (B6 s_2).bind fun r3=>(vm c_1).bind fun r4=>some (machine.mk c_1 r3 r4 [] false)
def QY (d_1:Duty)(x_2:Clause)(a_3:Int)(a_4:ac):Option Bool:=
 cz (bif (x_2.Party==a_3) then (x_2.Action==a_4) else false) fun u5:Bool=>some u5
def M6 (x_1:Int):Option Bool:=
 some (x_1 != x_1)
def M5 (x_1:Int)(y_2:Int):Option Int:=
 (M6 x_1).bind fun r3=>(M6 y_2).bind fun r4=>bif r3 then (bif r4 then (some 0) else (some (-1))) else (bif r4 then (some 1) else (bif (decide (x_1<y_2)) then (some (-1)) else (bif (decide (x_1>y_2)) then (some 1) else (some 0))))
def Bq (i_1:Int)(k_2:Int)(a_3:State):Option Int:=
 (aI a_3.Duties i_1).bind fun e4=>(aI a_3.Duties k_2).bind fun e5=>(M5 e4.Due e5.Due).bind fun r6=>some r6
def kB (cE:List Int)(eR:Int)(eY:Int)(di:State)(x5:Int×Int×Int×(List Int))(self:(Int×(List Int))→Option ((List Int)⊕(List Int)))(x6:Int×(List Int)):Option ((List Int)⊕(List Int)):=
 ch (ρ:=(List Int)) (bif (decide (x6.1>x5.1)) then ((aI x6.2 x6.1).bind fun e18=>(aI x6.2 (aj (x6.1 - 1))).bind fun e19=>(Bq e18 e19 di).bind fun r20=>some (.inr (decide (r20<0)))) else (some (.inr false))) fun u7:Bool=>bif u7 then ((aI x6.2 (aj (x6.1 - 1))).bind fun e8=>(aI x6.2 x6.1).bind fun e9=>(aI x6.2 x6.1).bind fun e10=>(aI (dM x6.2 x6.1 e8) (aj (x6.1 - 1))).bind fun e13=>cz (dM (dM x6.2 x6.1 e8) (aj (x6.1 - 1)) e9) fun rw14:List Int=>self ((aj (x6.1 - 1)),rw14)) else (some (.inr x6.2))
def lu (cE:List Int)(eR:Int)(eY:Int)(di:State)(x5:Int×Int×Int×(List Int)):(Int×(List Int))→Option ((List Int)⊕(List Int)):=aN (kB cE eR eY di x5)
theorem AM (cE:List Int)(eR:Int)(eY:Int)(di:State)(x5:Int×Int×Int×(List Int)):∀a,Fin1 fun f=>kB cE eR eY di x5 f a:=by
 unfold kB
 repeat first|intro _|exact aZ|exact bz|apply bE|apply bi|apply bm|apply br|apply bF
theorem vZ (cE:List Int)(eR:Int)(eY:Int)(di:State)(x5:Int×Int×Int×(List Int))(x:Int×(List Int)):lu cE eR eY di x5 x=kB cE eR eY di x5 (lu cE eR eY di x5) x:=bP (AM cE eR eY di x5) x
def kA (cE:List Int)(eR:Int)(eY:Int)(di:State)(self:(Int×Int×Int×(List Int))→Option ((List Int)⊕(List Int)))(x5:Int×Int×Int×(List Int)):Option ((List Int)⊕(List Int)):=
 bif (decide (x5.2.2.1<x5.2.1)) then (ch (ρ:=(List Int)) (lu cE eR eY di x5 (x5.2.2.1,x5.2.2.2)) fun u21:(List Int)=>self (x5.1,x5.2.1,(aj (x5.2.2.1+1)),u21)) else (some (.inr x5.2.2.2))
def mz (cE:List Int)(eR:Int)(eY:Int)(di:State): (Int×Int×Int×(List Int))→Option ((List Int)⊕(List Int)):=aN (kA cE eR eY di)
theorem AL (cE:List Int)(eR:Int)(eY:Int)(di:State): ∀a,Fin1 fun f=>kA cE eR eY di f a:=by
 unfold kA
 repeat first|intro _|exact aZ|exact bz|apply bE|apply bi|apply bm|apply br|apply bF
theorem vY (cE:List Int)(eR:Int)(eY:Int)(di:State)(x:Int×Int×Int×(List Int)):mz cE eR eY di x=kA cE eR eY di (mz cE eR eY di) x:=bP (AL cE eR eY di) x
def sf (cE:List Int)(eR:Int)(eY:Int)(di:State):Option (List Int):=
 be (ρ:=(List Int)) (mz cE eR eY di (eR,eY,(aj (eR+1)),cE)) fun u22:(List Int)=>bif Nat.beq u22.length cE.length then (some u22) else none
def lW (eE:List Int)(fp:Int)(gb:Int)(ip:Int)(fS:State)(self:(Int×(List Int))→Option ((List Int)⊕(List Int)))(x6:Int×(List Int)):Option ((List Int)⊕(List Int)):=
 bif (decide (x6.1<ip)) then ((aI x6.2 (aj (gb+x6.1))).bind fun e7=>(aI x6.2 (aj (fp+x6.1))).bind fun e8=>(aI x6.2 (aj (fp+x6.1))).bind fun e9=>(aI (dM x6.2 (aj (fp+x6.1)) e7) (aj (gb+x6.1))).bind fun e12=>cz (dM (dM x6.2 (aj (fp+x6.1)) e7) (aj (gb+x6.1)) e8) fun rw13:List Int=>self ((aj (x6.1+1)),rw13)) else (some (.inr x6.2))
def mA (eE:List Int)(fp:Int)(gb:Int)(ip:Int)(fS:State): (Int×(List Int))→Option ((List Int)⊕(List Int)):=aN (lW eE fp gb ip fS)
theorem AR (eE:List Int)(fp:Int)(gb:Int)(ip:Int)(fS:State): ∀a,Fin1 fun f=>lW eE fp gb ip fS f a:=by
 unfold lW
 repeat first|intro _|exact aZ|exact bz|apply bE|apply bi|apply bm|apply br|apply bF
theorem GQ (eE:List Int)(fp:Int)(gb:Int)(ip:Int)(fS:State)(x:Int×(List Int)):mA eE fp gb ip fS x=lW eE fp gb ip fS (mA eE fp gb ip fS) x:=bP (AR eE fp gb ip fS) x
def v7 (eE:List Int)(fp:Int)(gb:Int)(ip:Int)(fS:State):Option (List Int):=
 be (ρ:=(List Int)) (mA eE fp gb ip fS (0,eE)) fun u17:(List Int)=>bif Nat.beq u17.length eE.length then (some u17) else none
def om (eV:List Int)(a_9:Int)(fj:Int)(gY:Int)(eu:State)(self:(Int×Int×(List Int))→Option ((List Int)⊕(Int×Int×(List Int))))(x6:Int×Int×(List Int)):Option ((List Int)⊕(Int×Int×(List Int))):=
 bif (x6.1 != x6.2.1) then (ch (ρ:=(List Int)) (bif (decide (x6.1>x6.2.1)) then ((v7 x6.2.2 (aj (fj - x6.1)) fj x6.2.1 eu).bind fun r8=>bif Nat.beq r8.length x6.2.2.length then (some (.inr ((aj (x6.1 - x6.2.1)),x6.2.1,r8))) else none) else ((v7 x6.2.2 (aj (fj - x6.1)) (aj ((aj (fj+x6.2.1)) - x6.1)) x6.1 eu).bind fun r10=>bif Nat.beq r10.length x6.2.2.length then (some (.inr (x6.1,(aj (x6.2.1 - x6.1)),r10))) else none)) fun u7:Int×Int×(List Int)=>self (u7.1,u7.2.1,u7.2.2)) else (some (.inr (fj,x6.1,x6.2.2)))
def uI (eV:List Int)(a_9:Int)(fj:Int)(gY:Int)(eu:State): (Int×Int×(List Int))→Option ((List Int)⊕(Int×Int×(List Int))):=aN (om eV a_9 fj gY eu)
theorem AN (eV:List Int)(a_9:Int)(fj:Int)(gY:Int)(eu:State): ∀a,Fin1 fun f=>om eV a_9 fj gY eu f a:=by
 unfold om
 repeat first|intro _|exact aZ|exact bz|apply bE|apply bi|apply bm|apply br|apply bF
theorem Sd (eV:List Int)(a_9:Int)(fj:Int)(gY:Int)(eu:State)(x:Int×Int×(List Int)):uI eV a_9 fj gY eu x=om eV a_9 fj gY eu (uI eV a_9 fj gY eu) x:=bP (AN eV a_9 fj gY eu) x
def xP (eV:List Int)(a_9:Int)(fj:Int)(gY:Int)(eu:State):Option (List Int):=
 be (ρ:=(List Int)) (uI eV a_9 fj gY eu ((aj (fj - a_9)),(aj (gY - fj)),eV)) fun u12:Int×Int×(List Int)=>(v7 u12.2.2 (aj (u12.1 - u12.2.1)) u12.1 u12.2.1 eu).bind fun r13=>bif Nat.beq r13.length u12.2.2.length then (bif Nat.beq r13.length eV.length then (some r13) else none) else none
def jx (az:((List Int)×Int×Int×Int×State)→Option (List Int))(ar:List Int)(aY:Int)(ba:Int)(bg:Int)(aK:State)(self:(Int×Int)→Option ((List Int)⊕(Int×Int×(List Int))))(x6:Int×Int):Option ((List Int)⊕(Int×Int×(List Int))):=
 bif (decide (x6.1<x6.2)) then ((aI ar (IntKind.i64.wrap (ep .u64 (IntKind.u64.wrap (aj (x6.1+x6.2))) 1))).bind fun e7=>(aI ar aY).bind fun e8=>(Bq e7 e8 aK).bind fun r9=>cz (bif (decide (r9<0)) then ((aj ((IntKind.i64.wrap (ep .u64 (IntKind.u64.wrap (aj (x6.1+x6.2))) 1))+1)),x6.2) else (x6.1,(IntKind.i64.wrap (ep .u64 (IntKind.u64.wrap (aj (x6.1+x6.2))) 1)))) fun u10:Int×Int=>self (u10.1,u10.2)) else (some (.inr (aY,x6.1,ar)))
def pP (az:((List Int)×Int×Int×Int×State)→Option (List Int))(ar:List Int)(aY:Int)(ba:Int)(bg:Int)(aK:State): (Int×Int)→Option ((List Int)⊕(Int×Int×(List Int))):=aN (jx az ar aY ba bg aK)
theorem AU (az:((List Int)×Int×Int×Int×State)→Option (List Int))(ar:List Int)(aY:Int)(ba:Int)(bg:Int)(aK:State): ∀a,Fin1 fun f=>jx az ar aY ba bg aK f a:=by
 unfold jx
 repeat first|intro _|exact aZ|exact bz|apply bE|apply bi|apply bm|apply br|apply bF
theorem GR (az:((List Int)×Int×Int×Int×State)→Option (List Int))(ar:List Int)(aY:Int)(ba:Int)(bg:Int)(aK:State)(x:Int×Int):pP az ar aY ba bg aK x=jx az ar aY ba bg aK (pP az ar aY ba bg aK) x:=bP (AU az ar aY ba bg aK) x
def jy (az:((List Int)×Int×Int×Int×State)→Option (List Int))(ar:List Int)(aY:Int)(ba:Int)(bg:Int)(aK:State)(u11:Int×Int×(List Int))(self:(Int×(List Int))→Option ((List Int)⊕(List Int)))(x12:Int×(List Int)):Option ((List Int)⊕(List Int)):=
 bif (decide (x12.1<(aj (u11.2.1 - 1)))) then ((aI x12.2 (aj (x12.1+1))).bind fun e13=>(aI x12.2 x12.1).bind fun e14=>(aI x12.2 x12.1).bind fun e15=>(aI (dM x12.2 x12.1 e13) (aj (x12.1+1))).bind fun e18=>cz (dM (dM x12.2 x12.1 e13) (aj (x12.1+1)) e14) fun rw19:List Int=>self ((aj (x12.1+1)),rw19)) else (some (.inr x12.2))
def ke (az:((List Int)×Int×Int×Int×State)→Option (List Int))(ar:List Int)(aY:Int)(ba:Int)(bg:Int)(aK:State)(u11:Int×Int×(List Int)):(Int×(List Int))→Option ((List Int)⊕(List Int)):=aN (jy az ar aY ba bg aK u11)
theorem AV (az:((List Int)×Int×Int×Int×State)→Option (List Int))(ar:List Int)(aY:Int)(ba:Int)(bg:Int)(aK:State)(u11:Int×Int×(List Int)):∀a,Fin1 fun f=>jy az ar aY ba bg aK u11 f a:=by
 unfold jy
 repeat first|intro _|exact aZ|exact bz|apply bE|apply bi|apply bm|apply br|apply bF
theorem GS (az:((List Int)×Int×Int×Int×State)→Option (List Int))(ar:List Int)(aY:Int)(ba:Int)(bg:Int)(aK:State)(u11:Int×Int×(List Int))(x:Int×(List Int)):ke az ar aY ba bg aK u11 x=jy az ar aY ba bg aK u11 (ke az ar aY ba bg aK u11) x:=bP (AV az ar aY ba bg aK u11) x
def jz (az:((List Int)×Int×Int×Int×State)→Option (List Int))(ar:List Int)(aY:Int)(ba:Int)(bg:Int)(aK:State)(self:(Int×Int)→Option ((List Int)⊕(Int×Int×(List Int))))(x25:Int×Int):Option ((List Int)⊕(Int×Int×(List Int))):=
 bif (decide (x25.1<x25.2)) then ((aI ar ba).bind fun e26=>(aI ar (IntKind.i64.wrap (ep .u64 (IntKind.u64.wrap (aj (x25.1+x25.2))) 1))).bind fun e27=>(Bq e26 e27 aK).bind fun r28=>cz (bif (!(decide (r28<0))) then ((aj ((IntKind.i64.wrap (ep .u64 (IntKind.u64.wrap (aj (x25.1+x25.2))) 1))+1)),x25.2) else (x25.1,(IntKind.i64.wrap (ep .u64 (IntKind.u64.wrap (aj (x25.1+x25.2))) 1)))) fun u29:Int×Int=>self (u29.1,u29.2)) else (some (.inr (ba,x25.1,ar)))
def pQ (az:((List Int)×Int×Int×Int×State)→Option (List Int))(ar:List Int)(aY:Int)(ba:Int)(bg:Int)(aK:State): (Int×Int)→Option ((List Int)⊕(Int×Int×(List Int))):=aN (jz az ar aY ba bg aK)
theorem AW (az:((List Int)×Int×Int×Int×State)→Option (List Int))(ar:List Int)(aY:Int)(ba:Int)(bg:Int)(aK:State): ∀a,Fin1 fun f=>jz az ar aY ba bg aK f a:=by
 unfold jz
 repeat first|intro _|exact aZ|exact bz|apply bE|apply bi|apply bm|apply br|apply bF
theorem GT (az:((List Int)×Int×Int×Int×State)→Option (List Int))(ar:List Int)(aY:Int)(ba:Int)(bg:Int)(aK:State)(x:Int×Int):pQ az ar aY ba bg aK x=jz az ar aY ba bg aK (pQ az ar aY ba bg aK) x:=bP (AW az ar aY ba bg aK) x
def jA (az:((List Int)×Int×Int×Int×State)→Option (List Int))(ar:List Int)(aY:Int)(ba:Int)(bg:Int)(aK:State)(u30:Int×Int×(List Int))(self:(Int×(List Int))→Option ((List Int)⊕(List Int)))(x31:Int×(List Int)):Option ((List Int)⊕(List Int)):=
 bif (decide (x31.1>u30.2.1)) then ((aI x31.2 (aj (x31.1 - 1))).bind fun e32=>(aI x31.2 x31.1).bind fun e33=>(aI x31.2 x31.1).bind fun e34=>(aI (dM x31.2 x31.1 e32) (aj (x31.1 - 1))).bind fun e37=>cz (dM (dM x31.2 x31.1 e32) (aj (x31.1 - 1)) e33) fun rw38:List Int=>self ((aj (x31.1 - 1)),rw38)) else (some (.inr x31.2))
def kf (az:((List Int)×Int×Int×Int×State)→Option (List Int))(ar:List Int)(aY:Int)(ba:Int)(bg:Int)(aK:State)(u30:Int×Int×(List Int)):(Int×(List Int))→Option ((List Int)⊕(List Int)):=aN (jA az ar aY ba bg aK u30)
theorem AX (az:((List Int)×Int×Int×Int×State)→Option (List Int))(ar:List Int)(aY:Int)(ba:Int)(bg:Int)(aK:State)(u30:Int×Int×(List Int)):∀a,Fin1 fun f=>jA az ar aY ba bg aK u30 f a:=by
 unfold jA
 repeat first|intro _|exact aZ|exact bz|apply bE|apply bi|apply bm|apply br|apply bF
theorem GU (az:((List Int)×Int×Int×Int×State)→Option (List Int))(ar:List Int)(aY:Int)(ba:Int)(bg:Int)(aK:State)(u30:Int×Int×(List Int))(x:Int×(List Int)):kf az ar aY ba bg aK u30 x=jA az ar aY ba bg aK u30 (kf az ar aY ba bg aK u30) x:=bP (AX az ar aY ba bg aK u30) x
def kD (az:((List Int)×Int×Int×Int×State)→Option (List Int))(ar:List Int)(aY:Int)(ba:Int)(bg:Int)(aK:State)(self:(Int×Int)→Option ((List Int)⊕(Int×Int×Int×Int)))(x45:Int×Int):Option ((List Int)⊕(Int×Int×Int×Int)):=
 bif (decide (x45.1<x45.2)) then ((aI ar (aj ((aj ((aj ((IntKind.i64.wrap (ep .u64 (IntKind.u64.wrap (aj (aY+bg))) 1))+ba)) - 1)) - (IntKind.i64.wrap (ep .u64 (IntKind.u64.wrap (aj (x45.1+x45.2))) 1))))).bind fun e46=>(aI ar (IntKind.i64.wrap (ep .u64 (IntKind.u64.wrap (aj (x45.1+x45.2))) 1))).bind fun e47=>(Bq e46 e47 aK).bind fun r48=>cz (bif (!(decide (r48<0))) then ((aj ((IntKind.i64.wrap (ep .u64 (IntKind.u64.wrap (aj (x45.1+x45.2))) 1))+1)),x45.2) else (x45.1,(IntKind.i64.wrap (ep .u64 (IntKind.u64.wrap (aj (x45.1+x45.2))) 1)))) fun u49:Int×Int=>self (u49.1,u49.2)) else (some (.inr (bg,(IntKind.i64.wrap (ep .u64 (IntKind.u64.wrap (aj (aY+bg))) 1)),(aj ((IntKind.i64.wrap (ep .u64 (IntKind.u64.wrap (aj (aY+bg))) 1))+ba)),x45.1)))
def rV (az:((List Int)×Int×Int×Int×State)→Option (List Int))(ar:List Int)(aY:Int)(ba:Int)(bg:Int)(aK:State): (Int×Int)→Option ((List Int)⊕(Int×Int×Int×Int)):=aN (kD az ar aY ba bg aK)
theorem AY (az:((List Int)×Int×Int×Int×State)→Option (List Int))(ar:List Int)(aY:Int)(ba:Int)(bg:Int)(aK:State): ∀a,Fin1 fun f=>kD az ar aY ba bg aK f a:=by
 unfold kD
 repeat first|intro _|exact aZ|exact bz|apply bE|apply bi|apply bm|apply br|apply bF
theorem GV (az:((List Int)×Int×Int×Int×State)→Option (List Int))(ar:List Int)(aY:Int)(ba:Int)(bg:Int)(aK:State)(x:Int×Int):rV az ar aY ba bg aK x=kD az ar aY ba bg aK (rV az ar aY ba bg aK) x:=bP (AY az ar aY ba bg aK) x
def uN (az:((List Int)×Int×Int×Int×State)→Option (List Int))(ar:List Int)(aY:Int)(ba:Int)(bg:Int)(aK:State):Option (List Int):=
 bif ((aj (ba - aY))==1) then (be (ρ:=(List Int)) (pP az ar aY ba bg aK (ba,bg)) fun u11:Int×Int×(List Int)=>be (ρ:=(List Int)) (ke az ar aY ba bg aK u11 (u11.1,u11.2.2)) fun u23:(List Int)=>bif Nat.beq u23.length ar.length then (some u23) else none) else (bif ((aj (bg - ba))==1) then (be (ρ:=(List Int)) (pQ az ar aY ba bg aK (aY,ba)) fun u30:Int×Int×(List Int)=>be (ρ:=(List Int)) (kf az ar aY ba bg aK u30 (u30.1,u30.2.2)) fun u42:(List Int)=>bif Nat.beq u42.length ar.length then (some u42) else none) else (cz (bif (decide (ba>(IntKind.i64.wrap (ep .u64 (IntKind.u64.wrap (aj (aY+bg))) 1)))) then ((aj ((aj ((IntKind.i64.wrap (ep .u64 (IntKind.u64.wrap (aj (aY+bg))) 1))+ba)) - bg)),(IntKind.i64.wrap (ep .u64 (IntKind.u64.wrap (aj (aY+bg))) 1))) else (aY,ba)) fun u44:Int×Int=>be (ρ:=(List Int)) (rV az ar aY ba bg aK (u44.1,u44.2)) fun u50:Int×Int×Int×Int=>cz (bif (decide (u50.2.2.2<ba)) then (decide (ba<(aj (u50.2.2.1 - u50.2.2.2)))) else false) fun u51:Bool=>be (ρ:=(List Int)) (bif u51 then ((xP ar u50.2.2.2 ba (aj (u50.2.2.1 - u50.2.2.2)) aK).bind fun r62=>bif Nat.beq r62.length ar.length then (some (.inr r62)) else none) else (some (.inr ar))) fun u52:(List Int)=>cz (bif (decide (aY<u50.2.2.2)) then (decide (u50.2.2.2<u50.2.1)) else false) fun u53:Bool=>be (ρ:=(List Int)) (bif u53 then ((az (u52,aY,u50.2.2.2,u50.2.1,aK)).bind fun r60=>bif Nat.beq r60.length u52.length then (some (.inr r60)) else none) else (some (.inr u52))) fun u54:(List Int)=>cz (bif (decide (u50.2.1<(aj (u50.2.2.1 - u50.2.2.2)))) then (decide ((aj (u50.2.2.1 - u50.2.2.2))<u50.1)) else false) fun u55:Bool=>be (ρ:=(List Int)) (bif u55 then ((az (u54,u50.2.1,(aj (u50.2.2.1 - u50.2.2.2)),u50.1,aK)).bind fun r58=>bif Nat.beq r58.length u54.length then (some (.inr r58)) else none) else (some (.inr u54))) fun u56:(List Int)=>bif Nat.beq u56.length ar.length then (some u56) else none))
def fX (az:((List Int)×Int×Int×Int×State)→Option (List Int))(x:(List Int)×Int×Int×Int×State):Option (List Int):=uN az x.1 x.2.1 x.2.2.1 x.2.2.2.1 x.2.2.2.2
def J7 (ar:List Int)(aY:Int)(ba:Int)(bg:Int)(aK:State):Option (List Int):=aN fX (ar,aY,ba,bg,aK)
theorem ZT:∀x,Fin1 fun az=>fX az x:=by
 unfold fX uN
 repeat first|intro _|exact aZ|exact bz|exact kq|exact mJ|exact je|exact kQ|exact jF|exact jG|apply bE|apply bi|apply bm|apply br|apply bF|apply rz|unfold pP|unfold jx|unfold ke|unfold jy|unfold pP|unfold jx|unfold ke|unfold jy|unfold pQ|unfold jz|unfold kf|unfold jA|unfold pQ|unfold jz|unfold kf|unfold jA|unfold rV|unfold kD
theorem acH (ar:List Int)(aY:Int)(ba:Int)(bg:Int)(aK:State):J7 ar aY ba bg aK=uN (aN fX) ar aY ba bg aK:=bP ZT (ar,aY,ba,bg,aK)
def kC (cj:List Int)(n_7:Int)(co:State)(self:(Int×Int×(List Int))→Option ((List Int)⊕(Int×Int×(List Int))))(x4:Int×Int×(List Int)):Option ((List Int)⊕(Int×Int×(List Int))):=
 bif (decide (x4.2.1≤n_7)) then ((sf x4.2.2 x4.1 x4.2.1 co).bind fun r5=>bif Nat.beq r5.length x4.2.2.length then (self (x4.2.1,(aj (x4.2.1+20)),r5)) else none) else (some (.inr (n_7,x4.1,x4.2.2)))
def uK (cj:List Int)(n_7:Int)(co:State): (Int×Int×(List Int))→Option ((List Int)⊕(Int×Int×(List Int))):=aN (kC cj n_7 co)
theorem AO (cj:List Int)(n_7:Int)(co:State): ∀a,Fin1 fun f=>kC cj n_7 co f a:=by
 unfold kC
 repeat first|intro _|exact aZ|exact bz|apply bE|apply bi|apply bm|apply br|apply bF
theorem v6 (cj:List Int)(n_7:Int)(co:State)(x:Int×Int×(List Int)):uK cj n_7 co x=kC cj n_7 co (uK cj n_7 co) x:=bP (AO cj n_7 co) x
def oo (cj:List Int)(n_7:Int)(co:State)(u7:Int×Int×(List Int))(x10:Int×(List Int))(self:(Int×Int×(List Int))→Option ((List Int)⊕(Int×(List Int))))(x11:Int×Int×(List Int)):Option ((List Int)⊕(Int×(List Int))):=
 bif (decide (x11.2.1≤u7.1)) then ((J7 x11.2.2 x11.1 (aj (x11.1+x10.1)) x11.2.1 co).bind fun r12=>bif Nat.beq r12.length x11.2.2.length then (self (x11.2.1,(aj (x11.2.1+(aj (2*x10.1)))),r12)) else none) else (some (.inr (x11.1,x11.2.2)))
def uM (cj:List Int)(n_7:Int)(co:State)(u7:Int×Int×(List Int))(x10:Int×(List Int)):(Int×Int×(List Int))→Option ((List Int)⊕(Int×(List Int))):=aN (oo cj n_7 co u7 x10)
theorem AQ (cj:List Int)(n_7:Int)(co:State)(u7:Int×Int×(List Int))(x10:Int×(List Int)):∀a,Fin1 fun f=>oo cj n_7 co u7 x10 f a:=by
 unfold oo
 repeat first|intro _|exact aZ|exact bz|apply bE|apply bi|apply bm|apply br|apply bF
theorem Se (cj:List Int)(n_7:Int)(co:State)(u7:Int×Int×(List Int))(x10:Int×(List Int))(x:Int×Int×(List Int)):uM cj n_7 co u7 x10 x=oo cj n_7 co u7 x10 (uM cj n_7 co u7 x10) x:=bP (AQ cj n_7 co u7 x10) x
def jw (cj:List Int)(n_7:Int)(co:State)(u7:Int×Int×(List Int))(self:(Int×(List Int))→Option ((List Int)⊕(List Int)))(x10:Int×(List Int)):Option ((List Int)⊕(List Int)):=
 bif (decide (x10.1<u7.1)) then (ch (ρ:=(List Int)) (uM cj n_7 co u7 x10 (0,(aj (2*x10.1)),x10.2)) fun u14:Int×(List Int)=>ch (ρ:=(List Int)) (bif (decide ((aj (u14.1+x10.1))<u7.1)) then ((J7 u14.2 u14.1 (aj (u14.1+x10.1)) u7.1 co).bind fun r16=>bif Nat.beq r16.length u14.2.length then (some (.inr r16)) else none) else (some (.inr u14.2))) fun u15:(List Int)=>self ((aj (x10.1*2)),u15)) else (some (.inr x10.2))
def uL (cj:List Int)(n_7:Int)(co:State)(u7:Int×Int×(List Int)):(Int×(List Int))→Option ((List Int)⊕(List Int)):=aN (jw cj n_7 co u7)
theorem AP (cj:List Int)(n_7:Int)(co:State)(u7:Int×Int×(List Int)):∀a,Fin1 fun f=>jw cj n_7 co u7 f a:=by
 unfold jw
 repeat first|intro _|exact aZ|exact bz|apply bE|apply bi|apply bm|apply br|apply bF
theorem ro (cj:List Int)(n_7:Int)(co:State)(u7:Int×Int×(List Int))(x:Int×(List Int)):uL cj n_7 co u7 x=jw cj n_7 co u7 (uL cj n_7 co u7) x:=bP (AP cj n_7 co u7) x
def Dj (cj:List Int)(n_7:Int)(co:State):Option (List Int):=
 be (ρ:=(List Int)) (uK cj n_7 co (0,20,cj)) fun u7:Int×Int×(List Int)=>(sf u7.2.2 u7.2.1 u7.1 co).bind fun r8=>bif Nat.beq r8.length u7.2.2.length then (be (ρ:=(List Int)) (uL cj n_7 co u7 (20,r8)) fun u18:(List Int)=>bif Nat.beq u18.length cj.length then (some u18) else none) else none
def vX (x_3:List Int)(qq:State):Option (List Int):=
 (Dj x_3 (len x_3) qq).bind fun r3=>bif Nat.beq r3.length x_3.length then (bif Nat.beq r3.length x_3.length then (some r3) else none) else none
def nD (c_1:Contract)(s_2:State)(dI:Int×ac)(self:(Int×(List Int))→Option ((List Int)⊕(List Int)))(x4:Int×(List Int)):Option ((List Int)⊕(List Int)):=
 bif (decide (x4.1<(len s_2.Duties))) then ((aI s_2.Duties x4.1).bind fun e5=>ch (ρ:=(List Int)) (bif (e5.Status==1) then ((aI c_1.Clauses e5.Clause).bind fun e9=>(QY e5 e9 dI.1 dI.2).bind fun r10=>some (.inr r10)) else (some (.inr false))) fun u6:Bool=>ch (ρ:=(List Int)) (bif u6 then ((gP 8 x4.2 [x4.1]).bind fun a8=>some (.inr a8)) else (some (.inr x4.2))) fun u7:(List Int)=>self ((aj (x4.1+1)),u7)) else (some (.inr x4.2))
def qI (c_1:Contract)(s_2:State)(dI:Int×ac): (Int×(List Int))→Option ((List Int)⊕(List Int)):=aN (nD c_1 s_2 dI)
theorem IJ (c_1:Contract)(s_2:State)(dI:Int×ac): ∀a,Fin1 fun f=>nD c_1 s_2 dI f a:=by
 unfold nD
 repeat first|intro _|exact aZ|exact bz|apply bE|apply bi|apply bm|apply br|apply bF
theorem Lf (c_1:Contract)(s_2:State)(dI:Int×ac)(x:Int×(List Int)):qI c_1 s_2 dI x=nD c_1 s_2 dI (qI c_1 s_2 dI) x:=bP (IJ c_1 s_2 dI) x
def Oc (c_1:Contract)(s_2:State)(dI:Int×ac):Option (List Int):=
 be (ρ:=(List Int)) (qI c_1 s_2 dI (0,[])) fun u11:(List Int)=>(vX u11 s_2).bind fun r12=>bif Nat.beq r12.length u11.length then (some r12) else none
def zN (dJ:(Condition×(List ac)×Int)→Option Bool)(c_1:Condition)(bN:List ac)(cy:Int):Option Bool:=
 bif (c_1.Op==2) then ((oV bN c_1.Name).bind fun r4=>some r4) else (bif (c_1.Op==3) then (some (decide (cy≥c_1.Day))) else (bif (c_1.Op==4) then ((aI c_1.Parts 0).bind fun e5=>(dJ (e5,bN,cy)).bind fun r6=>some (!r6)) else (bif (c_1.Op==5) then ((aI c_1.Parts 0).bind fun e7=>(dJ (e7,bN,cy)).bind fun r8=>be (ρ:=Bool) (bif r8 then ((aI c_1.Parts 1).bind fun e10=>(dJ (e10,bN,cy)).bind fun r11=>some (.inr r11)) else (some (.inr false))) fun u9:Bool=>some u9) else (bif (c_1.Op==6) then ((aI c_1.Parts 0).bind fun e12=>(dJ (e12,bN,cy)).bind fun r13=>be (ρ:=Bool) (bif r13 then (some (.inr true)) else ((aI c_1.Parts 1).bind fun e15=>(dJ (e15,bN,cy)).bind fun r16=>some (.inr r16))) fun u14:Bool=>some u14) else (some true)))))
def pa (dJ:(Condition×(List ac)×Int)→Option Bool)(x:Condition×(List ac)×Int):Option Bool:=zN dJ x.1 x.2.1 x.2.2
def Od (c_1:Condition)(bN:List ac)(cy:Int):Option Bool:=aN pa (c_1,bN,cy)
theorem ac2:∀x,Fin1 fun dJ=>pa dJ x:=by
 unfold pa zN
 repeat first|intro _|exact aZ|exact bz|apply bE|apply bi|apply bm|apply br|apply bF
theorem agI (c_1:Condition)(bN:List ac)(cy:Int):Od c_1 bN cy=zN (aN pa) c_1 bN cy:=bP ac2 (c_1,bN,cy)
def JO (m_1:machine)(x_2:Clause):Option Bool:=
 (Od x_2.When m_1.f_s.Facts m_1.f_s.Day).bind fun r3=>some r3
def B2 (x_1:Clause)(a_2:Int)(a_3:Int)(a_4:ac)(a_5:machine):Option Bool:=
 be (ρ:=Bool) (bif (x_1.Kind==a_2) then (ch (ρ:=Bool) (bif (x_1.Party==a_3) then (ch (ρ:=Bool) (bif (x_1.Action==a_4) then ((JO a_5 x_1).bind fun r9=>some (.inr r9)) else (some (.inr false))) fun u8:Bool=>some (.inr u8)) else (some (.inr false))) fun u7:Bool=>some (.inr u7)) else (some (.inr false))) fun u6:Bool=>some u6
def oc (s_1:List Clause)(f_2:Int×Int×ac×machine)(self:Int→Option (Int⊕Unit))(x3:Int):Option (Int⊕Unit):=
 bif (decide (x3<(len s_1))) then ((aI s_1 x3).bind fun e4=>(B2 e4 f_2.1 f_2.2.1 f_2.2.2.1 f_2.2.2.2).bind fun r5=>bif r5 then (some (.inl x3)) else (self (aj (x3+1)))) else (some (.inr ()))
def uD (s_1:List Clause)(f_2:Int×Int×ac×machine): Int→Option (Int⊕Unit):=aN (oc s_1 f_2)
theorem AF (s_1:List Clause)(f_2:Int×Int×ac×machine): ∀a,Fin1 fun f=>oc s_1 f_2 f a:=by
 unfold oc
 repeat first|intro _|exact aZ|exact bz|apply bE|apply bi|apply bm|apply br|apply bF
theorem R8 (s_1:List Clause)(f_2:Int×Int×ac×machine)(x:Int):uD s_1 f_2 x=oc s_1 f_2 (uD s_1 f_2) x:=bP (AF s_1 f_2) x
def J1 (s_1:List Clause)(f_2:Int×Int×ac×machine):Option Int:=
 be (ρ:=Int) (uD s_1 f_2 0) fun u6:Unit=>some (-1)
def tL (m_1:machine)(dG:Int)(aD:Int)(aE:ac):Option Int:=
 (J1 m_1.f_c.Clauses (dG,aD,aE,m_1)).bind fun r5=>some r5
def JN (m_1:machine)(eU:Int)(ew:ac):Option Int:=
 (tL m_1 3 eU ew).bind fun r4=>bif (decide (r4≥0)) then (some (-1)) else ((tL m_1 2 eU ew).bind fun r5=>some r5)
def Nk (c_1:Contract)(s_2:State)(aD:Int)(aE:ac):Option (Int×Bool):=
 (BR c_1 s_2 [aD]).bind fun r5=>be (ρ:=Int×Bool) (bif (!r5) then (some (.inr true)) else ((vj aE).bind fun r12=>some (.inr (!r12)))) fun u6:Bool=>bif u6 then (some (0,false)) else ((B0 c_1 s_2).bind fun r7=>bif s_2.Over then (some (0,true)) else ((Oc c_1 s_2 (aD,aE)).bind fun r8=>bif (decide ((len r8)>0)) then (some (1,true)) else ((JN r7 aD aE).bind fun r9=>bif (decide (r9≥0)) then (some (2,true)) else ((tL r7 4 aD aE).bind fun r10=>bif (decide (r10≥0)) then (some (3,true)) else ((tL r7 3 aD aE).bind fun r11=>bif (decide (r11≥0)) then (some (4,true)) else (some (0,true)))))))
def nT (a_1:List ac)(b_2:List ac)(self:Int→Option (Bool⊕Unit))(x3:Int):Option (Bool⊕Unit):=
 bif (decide (x3<(len a_1))) then ((aI a_1 x3).bind fun e4=>(aI b_2 x3).bind fun e5=>bif (!(e4==e5)) then (some (.inl false)) else (self (aj (x3+1)))) else (some (.inr ()))
def un (a_1:List ac)(b_2:List ac): Int→Option (Bool⊕Unit):=aN (nT a_1 b_2)
theorem Ao (a_1:List ac)(b_2:List ac): ∀a,Fin1 fun f=>nT a_1 b_2 f a:=by
 unfold nT
 repeat first|intro _|exact aZ|exact bz|apply bE|apply bi|apply bm|apply br|apply bF
theorem RR (a_1:List ac)(b_2:List ac)(x:Int):un a_1 b_2 x=nT a_1 b_2 (un a_1 b_2) x:=bP (Ao a_1 b_2) x
def xy (a_1:List ac)(b_2:List ac):Option Bool:=
 bif ((len a_1) != (len b_2)) then (some false) else (be (ρ:=Bool) (un a_1 b_2 0) fun u6:Unit=>some true)
def lR (bB:(Condition×Condition)→Option Bool)(a_1:List Condition)(b_2:List Condition)(self:Int→Option (Bool⊕Unit))(x3:Int):Option (Bool⊕Unit):=
 bif (decide (x3<(len a_1))) then ((aI a_1 x3).bind fun e4=>(aI b_2 x3).bind fun e5=>(bB (e4,e5)).bind fun r6=>bif (!r6) then (some (.inl false)) else (self (aj (x3+1)))) else (some (.inr ()))
def rR (bB:(Condition×Condition)→Option Bool)(a_1:List Condition)(b_2:List Condition): Int→Option (Bool⊕Unit):=aN (lR bB a_1 b_2)
theorem Al (bB:(Condition×Condition)→Option Bool)(a_1:List Condition)(b_2:List Condition): ∀a,Fin1 fun f=>lR bB a_1 b_2 f a:=by
 unfold lR
 repeat first|intro _|exact aZ|exact bz|apply bE|apply bi|apply bm|apply br|apply bF
theorem RO (bB:(Condition×Condition)→Option Bool)(a_1:List Condition)(b_2:List Condition)(x:Int):rR bB a_1 b_2 x=lR bB a_1 b_2 (rR bB a_1 b_2) x:=bP (Al bB a_1 b_2) x
def xu (bB:(Condition×Condition)→Option Bool)(a_1:List Condition)(b_2:List Condition):Option Bool:=
 bif ((len a_1) != (len b_2)) then (some false) else (be (ρ:=Bool) (rR bB a_1 b_2 0) fun u7:Unit=>some true)
def uk (bB:(Condition×Condition)→Option Bool)(a_1:Condition)(b_2:Condition):Option Bool:=
 bif (a_1.Op != b_2.Op) then (some false) else (bif (!(a_1.Name==b_2.Name)) then (some false) else (bif (a_1.Day != b_2.Day) then (some false) else ((xu bB a_1.Parts b_2.Parts).bind fun r3=>bif (!r3) then (some false) else (some true))))
def qB (bB:(Condition×Condition)→Option Bool)(x:Condition×Condition):Option Bool:=uk bB x.1 x.2
def Cg (a_1:Condition)(b_2:Condition):Option Bool:=aN qB (a_1,b_2)
theorem YZ:∀x,Fin1 fun bB=>qB bB x:=by
 unfold qB uk
 repeat first|intro _|exact aZ|exact bz|exact kq|exact mJ|exact je|exact kQ|exact jF|exact jG|apply bE|apply bi|apply bm|apply br|apply bF|apply rz|unfold xu|unfold rR|unfold lR
theorem acB (a_1:Condition)(b_2:Condition):Cg a_1 b_2=uk (aN qB) a_1 b_2:=bP YZ (a_1,b_2)
def xq (a_1:Clause)(b_2:Clause):Option Bool:=
 bif (!(a_1.Id==b_2.Id)) then (some false) else (bif (a_1.Kind != b_2.Kind) then (some false) else (bif (a_1.Party != b_2.Party) then (some false) else (bif (!(a_1.Action==b_2.Action)) then (some false) else (bif (a_1.Other != b_2.Other) then (some false) else (bif (a_1.Amount != b_2.Amount) then (some false) else ((Cg a_1.When b_2.When).bind fun r3=>bif (!r3) then (some false) else (bif (a_1.Within != b_2.Within) then (some false) else (bif (!(a_1.Repair==b_2.Repair)) then (some false) else (some true)))))))))
def nQ (a_1:List Clause)(b_2:List Clause)(self:Int→Option (Bool⊕Unit))(x3:Int):Option (Bool⊕Unit):=
 bif (decide (x3<(len a_1))) then ((aI a_1 x3).bind fun e4=>(aI b_2 x3).bind fun e5=>(xq e4 e5).bind fun r6=>bif (!r6) then (some (.inl false)) else (self (aj (x3+1)))) else (some (.inr ()))
def uj (a_1:List Clause)(b_2:List Clause): Int→Option (Bool⊕Unit):=aN (nQ a_1 b_2)
theorem Ak (a_1:List Clause)(b_2:List Clause): ∀a,Fin1 fun f=>nQ a_1 b_2 f a:=by
 unfold nQ
 repeat first|intro _|exact aZ|exact bz|apply bE|apply bi|apply bm|apply br|apply bF
theorem RN (a_1:List Clause)(b_2:List Clause)(x:Int):uj a_1 b_2 x=nQ a_1 b_2 (uj a_1 b_2) x:=bP (Ak a_1 b_2) x
def Ce (a_1:List Clause)(b_2:List Clause):Option Bool:=
 bif ((len a_1) != (len b_2)) then (some false) else (be (ρ:=Bool) (uj a_1 b_2 0) fun u7:Unit=>some true)
def Ck (a_1:Contract)(b_2:Contract):Option Bool:=
 (xy a_1.Parties b_2.Parties).bind fun r3=>bif (!r3) then (some false) else ((Ce a_1.Clauses b_2.Clauses).bind fun r4=>bif (!r4) then (some false) else (some true))
def xw (a_1:Duty)(b_2:Duty):Option Bool:=
 bif (a_1.Clause != b_2.Clause) then (some false) else (bif (a_1.Since != b_2.Since) then (some false) else (bif (a_1.Due != b_2.Due) then (some false) else (bif (a_1.Status != b_2.Status) then (some false) else (some true))))
def nR (a_1:List Duty)(b_2:List Duty)(self:Int→Option (Bool⊕Unit))(x3:Int):Option (Bool⊕Unit):=
 bif (decide (x3<(len a_1))) then ((aI a_1 x3).bind fun e4=>(aI b_2 x3).bind fun e5=>(xw e4 e5).bind fun r6=>bif (!r6) then (some (.inl false)) else (self (aj (x3+1)))) else (some (.inr ()))
def ul (a_1:List Duty)(b_2:List Duty): Int→Option (Bool⊕Unit):=aN (nR a_1 b_2)
theorem Am (a_1:List Duty)(b_2:List Duty): ∀a,Fin1 fun f=>nR a_1 b_2 f a:=by
 unfold nR
 repeat first|intro _|exact aZ|exact bz|apply bE|apply bi|apply bm|apply br|apply bF
theorem RP (a_1:List Duty)(b_2:List Duty)(x:Int):ul a_1 b_2 x=nR a_1 b_2 (ul a_1 b_2) x:=bP (Am a_1 b_2) x
def Cn (a_1:List Duty)(b_2:List Duty):Option Bool:=
 bif ((len a_1) != (len b_2)) then (some false) else (be (ρ:=Bool) (ul a_1 b_2 0) fun u7:Unit=>some true)
def nS (a_1:List Int)(b_2:List Int)(self:Int→Option (Bool⊕Unit))(x3:Int):Option (Bool⊕Unit):=
 bif (decide (x3<(len a_1))) then ((aI a_1 x3).bind fun e4=>(aI b_2 x3).bind fun e5=>bif (e4 != e5) then (some (.inl false)) else (self (aj (x3+1)))) else (some (.inr ()))
def um (a_1:List Int)(b_2:List Int): Int→Option (Bool⊕Unit):=aN (nS a_1 b_2)
theorem An (a_1:List Int)(b_2:List Int): ∀a,Fin1 fun f=>nS a_1 b_2 f a:=by
 unfold nS
 repeat first|intro _|exact aZ|exact bz|apply bE|apply bi|apply bm|apply br|apply bF
theorem RQ (a_1:List Int)(b_2:List Int)(x:Int):um a_1 b_2 x=nS a_1 b_2 (um a_1 b_2) x:=bP (An a_1 b_2) x
def Cp (a_1:List Int)(b_2:List Int):Option Bool:=
 bif ((len a_1) != (len b_2)) then (some false) else (be (ρ:=Bool) (um a_1 b_2 0) fun u6:Unit=>some true)
def Cr (a_1:State)(b_2:State):Option Bool:=
 bif (a_1.Day != b_2.Day) then (some false) else ((xy a_1.Facts b_2.Facts).bind fun r3=>bif (!r3) then (some false) else ((Cn a_1.Duties b_2.Duties).bind fun r4=>bif (!r4) then (some false) else ((Cp a_1.Balances b_2.Balances).bind fun r5=>bif (!r5) then (some false) else (bif (!(a_1.Over==b_2.Over)) then (some false) else (some true)))))
def fu (kO:Contract)(kP:State)(ii:Int)(fY:ac):Option Bool:=
 bif (decide ((len fY)>1048576)) then (some true) else ((CA kO 1048576).bind fun r5=>bif (decide (r5<0)) then (some true) else ((CG kP r5).bind fun r6=>bif (decide (r6<0)) then (some true) else ((vT kO).bind fun r7=>(vU kP).bind fun r8=>(Dn r7 r8 ii fY).bind fun r9=>(vT kO).bind fun r10=>(vU kP).bind fun r11=>(Nk r10 r11 ii fY).bind fun r12=>cz (bif (r12.1 != r9.1) then true else (!(r12.2==r9.2))) fun u13:Bool=>bif u13 then (some false) else ((vT kO).bind fun r14=>(Ck r10 r14).bind fun r15=>bif (!r15) then (some false) else ((vU kP).bind fun r16=>(Cr r11 r16).bind fun r17=>bif (!r17) then (some false) else (some true))))))
end
end Go.Ln
