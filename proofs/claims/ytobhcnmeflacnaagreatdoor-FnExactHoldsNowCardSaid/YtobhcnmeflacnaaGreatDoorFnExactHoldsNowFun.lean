/-
  What each function of the law computes, as a plain function.
-/
import Derived.Test.YtobhcnmeflacnaaGreatDoorFnExactHoldsNowLnC
set_option maxHeartbeats 4000000
set_option linter.unusedVariables false
set_option linter.unusedSimpArgs false
set_option maxRecDepth 100000
namespace Go.Ln
open Go
structure Condition where
 Op:Int
 Name:ah
 Day:Int
 Parts:List Condition
mutual
def aa:Condition→V
 | ⟨a0,a1,a2,a3⟩=>.agg [I a0,str a1,I a2,.isl false (cp a3)]
def cp:List Condition→List V
 | []=>[]
 | x::xs=>aa x::cp xs
end
theorem my:∀xs,cp xs=xs.map aa
 | []=>by simp[cp]
 | x::xs=>by simp[cp,my xs]
def aP (x:Condition):V:=.agg [I x.Op,str x.Name,I x.Day,.isl false (x.Parts.map aa)]
theorem bb (x:Condition):aa x=aP x:=by cases x;simp only[aa,aP,my]
mutual
theorem ee:∀(a b:Condition),aa a=aa b→a=b
 | ⟨a0,a1,a2,a3⟩,⟨b0,b1,b2,b3⟩,h=>by
  simp only[aa] at h
  have k0:=V.agg.inj h
  obtain⟨h0,k1⟩:=List.cons.inj k0
  obtain rfl:=bA a0 b0 h0
  obtain⟨h1,k2⟩:=List.cons.inj k1
  obtain rfl:=bf a1 b1 h1
  obtain⟨h2,k3⟩:=List.cons.inj k2
  obtain rfl:=bA a2 b2 h2
  obtain⟨h3,k4⟩:=List.cons.inj k3
  have e3:cp a3=cp b3:=by simpa using h3
  obtain rfl:=mw a3 b3 e3
  rfl
theorem mw:∀(a b:List Condition),cp a=cp b→a=b
 | [],[],_=>rfl
 | [],_::_,h=>by simp[cp] at h
 | _::_,[],h=>by simp[cp] at h
 | x::xs,y::ys,h=>by
  simp only[cp,List.cons.injEq] at h
  rw[ee x y h.1,mw xs ys h.2]
end
theorem cb (a b:Condition)(h:aP a=aP b):a=b:=ee a b (by rw[bb,bb,h])
mutual
def ap:Condition→V
 | ⟨a0,a1,a2,a3⟩=>.agg [I a0,str a1,I a2,.usl 4 (b9 a3)]
def b9:List Condition→List V
 | []=>[]
 | x::xs=>ap x::b9 xs
end
theorem mr:∀xs,b9 xs=xs.map ap
 | []=>by simp[b9]
 | x::xs=>by simp[b9,mr xs]
def pV (x:Condition):V:=.agg [I x.Op,str x.Name,I x.Day,.usl 4 (x.Parts.map ap)]
theorem kt (x:Condition):ap x=pV x:=by cases x;simp only[ap,pV,mr]
mutual
theorem vu:∀(a b:Condition),ap a=ap b→a=b
 | ⟨a0,a1,a2,a3⟩,⟨b0,b1,b2,b3⟩,h=>by
  simp only[ap] at h
  have k0:=V.agg.inj h
  obtain⟨h0,k1⟩:=List.cons.inj k0
  obtain rfl:=bA a0 b0 h0
  obtain⟨h1,k2⟩:=List.cons.inj k1
  obtain rfl:=bf a1 b1 h1
  obtain⟨h2,k3⟩:=List.cons.inj k2
  obtain rfl:=bA a2 b2 h2
  obtain⟨h3,k4⟩:=List.cons.inj k3
  have e3:b9 a3=b9 b3:=by simpa using h3
  obtain rfl:=mp a3 b3 e3
  rfl
theorem mp:∀(a b:List Condition),b9 a=b9 b→a=b
 | [],[],_=>rfl
 | [],_::_,h=>by simp[b9] at h
 | _::_,[],h=>by simp[b9] at h
 | x::xs,y::ys,h=>by
  simp only[b9,List.cons.injEq] at h
  rw[vu x y h.1,mp xs ys h.2]
end
mutual
theorem nm:∀x:Condition,dh (ap x)=aa x
 | ⟨a0,a1,a2,a3⟩=>by simp[ap,aa,dh,em,str,mu]
theorem mu:∀xs:List Condition,em (b9 xs)=cp xs
 | []=>by simp[b9,cp,em]
 | x::xs=>by simp[b9,cp,em,nm x,mu xs]
end
mutual
theorem tC:∀x:Condition,co (ap x)=false
 | ⟨a0,a1,a2,a3⟩=>by simp[ap,co,cZ,str,l7]
theorem l7:∀xs:List Condition,cZ (b9 xs)=false
 | []=>by simp[b9,cZ]
 | x::xs=>by simp[b9,cZ,tC x,l7 xs]
end
structure Clause where
 Id:ah
 Kind:Int
 Party:Int
 Action:ah
 Other:Int
 Amount:Int
 When:Condition
 Within:Int
 Repair:ah
def ac (x:Clause):V:=.agg [str x.Id,I x.Kind,I x.Party,str x.Action,I x.Other,I x.Amount,I x.When.Op,str x.When.Name,I x.When.Day,.isl false (x.When.Parts.map aa),I x.Within,str x.Repair]
theorem cm (a b:Clause)(h:ac a=ac b):a=b:=by
 obtain⟨p0,p1,p2,p3,p4,p5,⟨p6,p7,p8,p9⟩,p10,p11⟩:=a
 obtain⟨q0,q1,q2,q3,q4,q5,⟨q6,q7,q8,q9⟩,q10,q11⟩:=b
 replace h:=V.agg.inj h
 obtain⟨h0,h⟩:=List.cons.inj h
 obtain rfl:=bf p0 q0 h0
 obtain⟨h1,h⟩:=List.cons.inj h
 obtain rfl:=bA p1 q1 h1
 obtain⟨h2,h⟩:=List.cons.inj h
 obtain rfl:=bA p2 q2 h2
 obtain⟨h3,h⟩:=List.cons.inj h
 obtain rfl:=bf p3 q3 h3
 obtain⟨h4,h⟩:=List.cons.inj h
 obtain rfl:=bA p4 q4 h4
 obtain⟨h5,h⟩:=List.cons.inj h
 obtain rfl:=bA p5 q5 h5
 obtain⟨h6,h⟩:=List.cons.inj h
 obtain rfl:=bA p6 q6 h6
 obtain⟨h7,h⟩:=List.cons.inj h
 obtain rfl:=bf p7 q7 h7
 obtain⟨h8,h⟩:=List.cons.inj h
 obtain rfl:=bA p8 q8 h8
 obtain⟨h9,h⟩:=List.cons.inj h
 obtain rfl:=(bi ee) p9 q9 h9
 obtain⟨h10,h⟩:=List.cons.inj h
 obtain rfl:=bA p10 q10 h10
 obtain⟨h11,h⟩:=List.cons.inj h
 obtain rfl:=bf p11 q11 h11
 rfl
def aI (x:Clause):V:=.agg [str x.Id,I x.Kind,I x.Party,str x.Action,I x.Other,I x.Amount,I x.When.Op,str x.When.Name,I x.When.Day,.usl 4 (x.When.Parts.map ap),I x.Within,str x.Repair]
theorem eW (x:Clause):dh (aI x)=ac x:=LJ (cY rfl (cY rfl (cY rfl (cY rfl (cY rfl (cY rfl (cY rfl (cY rfl (cY rfl (cY (kE (bz nm)) (cY rfl (cY rfl rfl))))))))))))
structure Contract where
 Parties:List ah
 Clauses:List Clause
def aG (x:Contract):V:=.agg [.isl false (x.Parties.map str),.isl false (x.Clauses.map ac)]
theorem aQ (a b:Contract)(h:aG a=aG b):a=b:=by
 obtain⟨p0,p1⟩:=a
 obtain⟨q0,q1⟩:=b
 replace h:=V.agg.inj h
 obtain⟨h0,h⟩:=List.cons.inj h
 obtain rfl:=(bi bf) p0 q0 h0
 obtain⟨h1,h⟩:=List.cons.inj h
 obtain rfl:=(bi cm) p1 q1 h1
 rfl
structure Duty where
 Clause:Int
 Since:Int
 Due:Int
 Status:Int
def ae (x:Duty):V:=.agg [I x.Clause,I x.Since,I x.Due,I x.Status]
theorem rL (x:Duty):(cells (ae x)).length=4∧(cells (ae x)).all dW=true:=⟨rfl,rfl⟩
theorem eY (x:Duty):dh (ae x)=ae x:=rfl
theorem cO (a b:Duty)(h:ae a=ae b):a=b:=by
 obtain⟨p0,p1,p2,p3⟩:=a
 obtain⟨q0,q1,q2,q3⟩:=b
 replace h:=V.agg.inj h
 obtain⟨h0,h⟩:=List.cons.inj h
 obtain rfl:=bA p0 q0 h0
 obtain⟨h1,h⟩:=List.cons.inj h
 obtain rfl:=bA p1 q1 h1
 obtain⟨h2,h⟩:=List.cons.inj h
 obtain rfl:=bA p2 q2 h2
 obtain⟨h3,h⟩:=List.cons.inj h
 obtain rfl:=bA p3 q3 h3
 rfl
structure State where
 Day:Int
 Facts:List ah
 Duties:List Duty
 Balances:List Int
 Over:Bool
def bI (x:State):V:=.agg [I x.Day,.isl false (x.Facts.map str),.isl false (x.Duties.map ae),.isl false (x.Balances.map I),B x.Over]
theorem cD (a b:State)(h:bI a=bI b):a=b:=by
 obtain⟨p0,p1,p2,p3,p4⟩:=a
 obtain⟨q0,q1,q2,q3,q4⟩:=b
 replace h:=V.agg.inj h
 obtain⟨h0,h⟩:=List.cons.inj h
 obtain rfl:=bA p0 q0 h0
 obtain⟨h1,h⟩:=List.cons.inj h
 obtain rfl:=(bi bf) p1 q1 h1
 obtain⟨h2,h⟩:=List.cons.inj h
 obtain rfl:=(bi cO) p2 q2 h2
 obtain⟨h3,h⟩:=List.cons.inj h
 obtain rfl:=(bi bA) p3 q3 h3
 obtain⟨h4,h⟩:=List.cons.inj h
 obtain rfl:=LW p4 q4 h4
 rfl
structure Entry where
 Day:Int
 Kind:Int
 Clause:Int
 Party:Int
def jv (x:Entry):V:=.agg [I x.Day,I x.Kind,I x.Clause,I x.Party]
theorem tg (x:Entry):dh (jv x)=jv x:=rfl
theorem F7 (a b:Entry)(h:jv a=jv b):a=b:=by
 obtain⟨p0,p1,p2,p3⟩:=a
 obtain⟨q0,q1,q2,q3⟩:=b
 replace h:=V.agg.inj h
 obtain⟨h0,h⟩:=List.cons.inj h
 obtain rfl:=bA p0 q0 h0
 obtain⟨h1,h⟩:=List.cons.inj h
 obtain rfl:=bA p1 q1 h1
 obtain⟨h2,h⟩:=List.cons.inj h
 obtain rfl:=bA p2 q2 h2
 obtain⟨h3,h⟩:=List.cons.inj h
 obtain rfl:=bA p3 q3 h3
 rfl
structure machine where
 f_c:Contract
 f_s:State
 f_names:List ah
 f_trace:List Entry
 f_failed:Bool
def dV (x:machine):V:=.agg [.isl false (x.f_c.Parties.map str),.isl false (x.f_c.Clauses.map ac),I x.f_s.Day,.isl false (x.f_s.Facts.map str),.isl false (x.f_s.Duties.map ae),.isl false (x.f_s.Balances.map I),B x.f_s.Over,.isl false (x.f_names.map str),.isl false (x.f_trace.map jv),B x.f_failed]
theorem zi (a b:machine)(h:dV a=dV b):a=b:=by
 obtain⟨⟨p0,p1⟩,⟨p2,p3,p4,p5,p6⟩,p7,p8,p9⟩:=a
 obtain⟨⟨q0,q1⟩,⟨q2,q3,q4,q5,q6⟩,q7,q8,q9⟩:=b
 replace h:=V.agg.inj h
 obtain⟨h0,h⟩:=List.cons.inj h
 obtain rfl:=(bi bf) p0 q0 h0
 obtain⟨h1,h⟩:=List.cons.inj h
 obtain rfl:=(bi cm) p1 q1 h1
 obtain⟨h2,h⟩:=List.cons.inj h
 obtain rfl:=bA p2 q2 h2
 obtain⟨h3,h⟩:=List.cons.inj h
 obtain rfl:=(bi bf) p3 q3 h3
 obtain⟨h4,h⟩:=List.cons.inj h
 obtain rfl:=(bi cO) p4 q4 h4
 obtain⟨h5,h⟩:=List.cons.inj h
 obtain rfl:=(bi bA) p5 q5 h5
 obtain⟨h6,h⟩:=List.cons.inj h
 obtain rfl:=LW p6 q6 h6
 obtain⟨h7,h⟩:=List.cons.inj h
 obtain rfl:=(bi bf) p7 q7 h7
 obtain⟨h8,h⟩:=List.cons.inj h
 obtain rfl:=(bi F7) p8 q8 h8
 obtain⟨h9,h⟩:=List.cons.inj h
 obtain rfl:=LW p9 q9 h9
 rfl
def Ht (x:machine):V:=.agg [.isl false (x.f_c.Parties.map str),.isl false (x.f_c.Clauses.map ac),I x.f_s.Day,.usl 1 (x.f_s.Facts.map str),.usl 4 (x.f_s.Duties.map ae),.usl 1 (x.f_s.Balances.map I),B x.f_s.Over,.usl 1 (x.f_names.map str),.usl 4 (x.f_trace.map jv),B x.f_failed]
mutual
def mG:Condition→Prop
 | ⟨a0,a1,a2,a3⟩=>l4 a0∧Aq a1∧l4 a2∧(a3.length≤maxLen∧HB a3)
def HB:List Condition→Prop
 | []=>True
 | x::xs=>mG x∧HB xs
end
theorem IR:∀xs,HB xs↔∀x∈xs,mG x
 | []=>by simp[HB]
 | x::xs=>by simp[HB,IR xs]
theorem HE (x:Condition):mG x↔l4 x.Op∧Aq x.Name∧l4 x.Day∧pS mG x.Parts:=by cases x;simp only[mG,IR,pS]
def pZ (x:Clause):Prop:=Aq x.Id∧l4 x.Kind∧l4 x.Party∧Aq x.Action∧l4 x.Other∧l4 x.Amount∧mG x.When∧l4 x.Within∧Aq x.Repair
def Rt (x:Contract):Prop:=(pS Aq) x.Parties∧(pS pZ) x.Clauses
def Fm (x:Duty):Prop:=l4 x.Clause∧l4 x.Since∧l4 x.Due∧l4 x.Status
def xI (x:State):Prop:=l4 x.Day∧(pS Aq) x.Facts∧(pS Fm) x.Duties∧(pS l4) x.Balances∧Zw x.Over
noncomputable def lG (a_1:List ah)(left_2:Int)(self:(Int×Int)→Option (Int⊕Int))(x3:Int×Int):Option (Int⊕Int):=
 bif (decide (x3.2<(len a_1))) then ((aF a_1 x3.2).bind fun e4=>bif (decide ((ar (x3.1 - (len e4)))<0)) then (some (.inl (-1))) else (self ((ar (x3.1 - (len e4))),(ar (x3.2+1))))) else (some (.inr x3.1))
noncomputable def rk (a_1:List ah)(left_2:Int): (Int×Int)→Option (Int⊕Int):=aE (lG a_1 left_2)
theorem wg (a_1:List ah)(left_2:Int): ∀a,Fin1 fun f=>lG a_1 left_2 f a:=by
 intro a
 unfold lG
 repeat first|exact aR|exact br|refine bw ?_ ?_|refine bd ?_ (fun _=>?_)|refine be ?_ (fun _=>?_)|refine bm ?_ (fun _=>?_)|refine bx (fun _=>?_)
theorem LU (a_1:List ah)(left_2:Int)(x:Int×Int):rk a_1 left_2 x=lG a_1 left_2 (rk a_1 left_2) x:=bD (wg a_1 left_2) x
noncomputable def tN (a_1:List ah)(left_2:Int):Option Int:=
 bif (decide ((ar (left_2 - (len a_1)))<0)) then (some (-1)) else (aW (ρ:=Int) (rk a_1 left_2 ((ar (left_2 - (len a_1))),0)) fun u5:Int=>some u5)
noncomputable def jB (slf_Ffbr:(Condition×Int)→Option Int)(a_1:List Condition)(left_2:Int)(self:(Int×Int)→Option (Int⊕Int))(x3:Int×Int):Option (Int⊕Int):=
 bif (decide (x3.2<(len a_1))) then ((aF a_1 x3.2).bind fun e4=>(slf_Ffbr (e4,x3.1)).bind fun r5=>bif (decide (r5<0)) then (some (.inl (-1))) else (self (r5,(ar (x3.2+1))))) else (some (.inr x3.1))
noncomputable def oM (slf_Ffbr:(Condition×Int)→Option Int)(a_1:List Condition)(left_2:Int): (Int×Int)→Option (Int⊕Int):=aE (jB slf_Ffbr a_1 left_2)
theorem wj (slf_Ffbr:(Condition×Int)→Option Int)(a_1:List Condition)(left_2:Int): ∀a,Fin1 fun f=>jB slf_Ffbr a_1 left_2 f a:=by
 intro a
 unfold jB
 repeat first|exact aR|exact br|refine bw ?_ ?_|refine bd ?_ (fun _=>?_)|refine be ?_ (fun _=>?_)|refine bm ?_ (fun _=>?_)|refine bx (fun _=>?_)
theorem MD (slf_Ffbr:(Condition×Int)→Option Int)(a_1:List Condition)(left_2:Int)(x:Int×Int):oM slf_Ffbr a_1 left_2 x=jB slf_Ffbr a_1 left_2 (oM slf_Ffbr a_1 left_2) x:=bD (wj slf_Ffbr a_1 left_2) x
noncomputable def tI (slf_Ffbr:(Condition×Int)→Option Int)(a_1:List Condition)(left_2:Int):Option Int:=
 bif (decide ((ar (left_2 - (len a_1)))<0)) then (some (-1)) else (aW (ρ:=Int) (oM slf_Ffbr a_1 left_2 ((ar (left_2 - (len a_1))),0)) fun u6:Int=>some u6)
noncomputable def qI (slf_Ffbr:(Condition×Int)→Option Int)(a_1:Condition)(left_2:Int):Option Int:=
 bif (decide ((ar (left_2 - (len a_1.Name)))<0)) then (some (-1)) else ((tI slf_Ffbr a_1.Parts (ar (left_2 - (len a_1.Name)))).bind fun r3=>bif (decide (r3<0)) then (some (-1)) else (some r3))
noncomputable def nD (slf_Ffbr:(Condition×Int)→Option Int)(x:Condition×Int):Option Int:=qI slf_Ffbr x.1 x.2
noncomputable def uN (a_1:Condition)(left_2:Int):Option Int:=aE nD (a_1,left_2)
theorem R4:∀x,Fin1 fun slf_Ffbr=>nD slf_Ffbr x:=by
 intro x
 unfold nD qI
 repeat first|exact aR|exact br|exact i7|exact lc|exact gF|exact jx|exact iy|exact iq|refine bw ?_ ?_|refine bd ?_ (fun _=>?_)|refine be ?_ (fun _=>?_)|refine bm ?_ (fun _=>?_)|refine bx (fun _=>?_)|refine pU (fun _=>?_) | unfold tI | unfold oM | unfold jB
theorem VD (a_1:Condition)(left_2:Int):uN a_1 left_2=qI (aE nD) a_1 left_2:=bD R4 (a_1,left_2)
noncomputable def sU (a_1:Clause)(left_2:Int):Option Int:=
 bif (decide ((ar (left_2 - (len a_1.Id)))<0)) then (some (-1)) else (bif (decide ((ar ((ar (left_2 - (len a_1.Id))) - (len a_1.Action)))<0)) then (some (-1)) else ((uN a_1.When (ar ((ar (left_2 - (len a_1.Id))) - (len a_1.Action)))).bind fun r3=>bif (decide (r3<0)) then (some (-1)) else (bif (decide ((ar (r3 - (len a_1.Repair)))<0)) then (some (-1)) else (some (ar (r3 - (len a_1.Repair)))))))
noncomputable def lm (a_1:List Clause)(left_2:Int)(self:(Int×Int)→Option (Int⊕Int))(x3:Int×Int):Option (Int⊕Int):=
 bif (decide (x3.2<(len a_1))) then ((aF a_1 x3.2).bind fun e4=>(sU e4 x3.1).bind fun r5=>bif (decide (r5<0)) then (some (.inl (-1))) else (self (r5,(ar (x3.2+1))))) else (some (.inr x3.1))
noncomputable def qG (a_1:List Clause)(left_2:Int): (Int×Int)→Option (Int⊕Int):=aE (lm a_1 left_2)
theorem wF (a_1:List Clause)(left_2:Int): ∀a,Fin1 fun f=>lm a_1 left_2 f a:=by
 intro a
 unfold lm
 repeat first|exact aR|exact br|refine bw ?_ ?_|refine bd ?_ (fun _=>?_)|refine be ?_ (fun _=>?_)|refine bm ?_ (fun _=>?_)|refine bx (fun _=>?_)
theorem MO (a_1:List Clause)(left_2:Int)(x:Int×Int):qG a_1 left_2 x=lm a_1 left_2 (qG a_1 left_2) x:=bD (wF a_1 left_2) x
noncomputable def xY (a_1:List Clause)(left_2:Int):Option Int:=
 bif (decide ((ar (left_2 - (len a_1)))<0)) then (some (-1)) else (aW (ρ:=Int) (qG a_1 left_2 ((ar (left_2 - (len a_1))),0)) fun u6:Int=>some u6)
noncomputable def yy (a_1:Contract)(left_2:Int):Option Int:=
 (tN a_1.Parties left_2).bind fun r3=>bif (decide (r3<0)) then (some (-1)) else ((xY a_1.Clauses r3).bind fun r4=>bif (decide (r4<0)) then (some (-1)) else (some r4))
noncomputable def xS (a_1:List Duty)(left_2:Int):Option Int:=
 bif (decide ((ar (left_2 - (len a_1)))<0)) then (some (-1)) else (some (ar (left_2 - (len a_1))))
noncomputable def yA (a_1:List Int)(left_2:Int):Option Int:=
 bif (decide ((ar (left_2 - (len a_1)))<0)) then (some (-1)) else (some (ar (left_2 - (len a_1))))
noncomputable def zq (a_1:State)(left_2:Int):Option Int:=
 (tN a_1.Facts left_2).bind fun r3=>bif (decide (r3<0)) then (some (-1)) else ((xS a_1.Duties r3).bind fun r4=>bif (decide (r4<0)) then (some (-1)) else ((yA a_1.Balances r4).bind fun r5=>bif (decide (r5<0)) then (some (-1)) else (some r5)))
noncomputable def lB (a_1:List ah)(self:(Int×(List ah))→Option ((List ah)⊕(List ah)))(x3:Int×(List ah)):Option ((List ah)⊕(List ah)):=
 bif (decide (x3.1<(len a_1))) then ((aF a_1 x3.1).bind fun e4=>(aF x3.2 x3.1).bind fun e5=>self ((ar (x3.1+1)),(eM x3.2 x3.1 e4))) else (some (.inr x3.2))
noncomputable def rz (a_1:List ah): (Int×(List ah))→Option ((List ah)⊕(List ah)):=aE (lB a_1)
theorem wM (a_1:List ah): ∀a,Fin1 fun f=>lB a_1 f a:=by
 intro a
 unfold lB
 repeat first|exact aR|exact br|refine bw ?_ ?_|refine bd ?_ (fun _=>?_)|refine be ?_ (fun _=>?_)|refine bm ?_ (fun _=>?_)|refine bx (fun _=>?_)
theorem Mv (a_1:List ah)(x:Int×(List ah)):rz a_1 x=lB a_1 (rz a_1) x:=bD (wM a_1) x
noncomputable def tY (a_1:List ah):Option (List ah):=
 (pA 16 [] (len a_1)).bind fun m2=>aW (ρ:=(List ah)) (rz a_1 (0,m2)) fun u6:(List ah)=>some u6
noncomputable def jI (slf_Ffca:Condition→Option Condition)(a_1:List Condition)(self:(Int×(List Condition))→Option ((List Condition)⊕(List Condition)))(x3:Int×(List Condition)):Option ((List Condition)⊕(List Condition)):=
 bif (decide (x3.1<(len a_1))) then ((aF a_1 x3.1).bind fun e4=>(slf_Ffca e4).bind fun r5=>(aF x3.2 x3.1).bind fun e6=>self ((ar (x3.1+1)),(eM x3.2 x3.1 r5))) else (some (.inr x3.2))
noncomputable def oG (slf_Ffca:Condition→Option Condition)(a_1:List Condition): (Int×(List Condition))→Option ((List Condition)⊕(List Condition)):=aE (jI slf_Ffca a_1)
theorem xk (slf_Ffca:Condition→Option Condition)(a_1:List Condition): ∀a,Fin1 fun f=>jI slf_Ffca a_1 f a:=by
 intro a
 unfold jI
 repeat first|exact aR|exact br|refine bw ?_ ?_|refine bd ?_ (fun _=>?_)|refine be ?_ (fun _=>?_)|refine bm ?_ (fun _=>?_)|refine bx (fun _=>?_)
theorem Mj (slf_Ffca:Condition→Option Condition)(a_1:List Condition)(x:Int×(List Condition)):oG slf_Ffca a_1 x=jI slf_Ffca a_1 (oG slf_Ffca a_1) x:=bD (xk slf_Ffca a_1) x
noncomputable def tT (slf_Ffca:Condition→Option Condition)(a_1:List Condition):Option (List Condition):=
 (pA 56 (Condition.mk 0 [] 0 []) (len a_1)).bind fun m2=>aW (ρ:=(List Condition)) (oG slf_Ffca a_1 (0,m2)) fun u7:(List Condition)=>some u7
noncomputable def rh (slf_Ffca:Condition→Option Condition)(a_1:Condition):Option Condition:=
 (tT slf_Ffca a_1.Parts).bind fun r2=>some (Condition.mk a_1.Op a_1.Name a_1.Day r2)
noncomputable def nk (slf_Ffca:Condition→Option Condition)(x:Condition):Option Condition:=rh slf_Ffca x
noncomputable def xQ (a_1:Condition):Option Condition:=aE nk a_1
theorem SJ:∀x,Fin1 fun slf_Ffca=>nk slf_Ffca x:=by
 intro x
 unfold nk rh
 repeat first|exact aR|exact br|exact i7|exact lc|exact gF|exact jx|exact iy|exact iq|refine bw ?_ ?_|refine bd ?_ (fun _=>?_)|refine be ?_ (fun _=>?_)|refine bm ?_ (fun _=>?_)|refine bx (fun _=>?_)|refine pU (fun _=>?_) | unfold tT | unfold oG | unfold jI
theorem Vn (a_1:Condition):xQ a_1=rh (aE nk) a_1:=bD SJ a_1
noncomputable def tP (a_1:Clause):Option Clause:=
 (xQ a_1.When).bind fun r2=>some (Clause.mk a_1.Id a_1.Kind a_1.Party a_1.Action a_1.Other a_1.Amount r2 a_1.Within a_1.Repair)
noncomputable def lH (a_1:List Clause)(self:(Int×(List Clause))→Option ((List Clause)⊕(List Clause)))(x3:Int×(List Clause)):Option ((List Clause)⊕(List Clause)):=
 bif (decide (x3.1<(len a_1))) then ((aF a_1 x3.1).bind fun e4=>(tP e4).bind fun r5=>(aF x3.2 x3.1).bind fun e6=>self ((ar (x3.1+1)),(eM x3.2 x3.1 r5))) else (some (.inr x3.2))
noncomputable def rH (a_1:List Clause): (Int×(List Clause))→Option ((List Clause)⊕(List Clause)):=aE (lH a_1)
theorem ww (a_1:List Clause): ∀a,Fin1 fun f=>lH a_1 f a:=by
 intro a
 unfold lH
 repeat first|exact aR|exact br|refine bw ?_ ?_|refine bd ?_ (fun _=>?_)|refine be ?_ (fun _=>?_)|refine bm ?_ (fun _=>?_)|refine bx (fun _=>?_)
theorem Mh (a_1:List Clause)(x:Int×(List Clause)):rH a_1 x=lH a_1 (rH a_1) x:=bD (ww a_1) x
noncomputable def zK (a_1:List Clause):Option (List Clause):=
 (pA 144 (Clause.mk [] 0 0 [] 0 0 (Condition.mk 0 [] 0 []) 0 []) (len a_1)).bind fun m2=>aW (ρ:=(List Clause)) (rH a_1 (0,m2)) fun u7:(List Clause)=>some u7
noncomputable def sk (a_1:Contract):Option Contract:=
 (tY a_1.Parties).bind fun r2=>(zK a_1.Clauses).bind fun r3=>some (Contract.mk r2 r3)
noncomputable def vx (a_1:Duty):Option Duty:=
 some a_1
noncomputable def lL (a_1:List Duty)(self:(Int×(List Duty))→Option ((List Duty)⊕(List Duty)))(x3:Int×(List Duty)):Option ((List Duty)⊕(List Duty)):=
 bif (decide (x3.1<(len a_1))) then ((aF a_1 x3.1).bind fun e4=>(vx e4).bind fun r5=>(aF x3.2 x3.1).bind fun e6=>self ((ar (x3.1+1)),(eM x3.2 x3.1 r5))) else (some (.inr x3.2))
noncomputable def qL (a_1:List Duty): (Int×(List Duty))→Option ((List Duty)⊕(List Duty)):=aE (lL a_1)
theorem wS (a_1:List Duty): ∀a,Fin1 fun f=>lL a_1 f a:=by
 intro a
 unfold lL
 repeat first|exact aR|exact br|refine bw ?_ ?_|refine bd ?_ (fun _=>?_)|refine be ?_ (fun _=>?_)|refine bm ?_ (fun _=>?_)|refine bx (fun _=>?_)
theorem L9 (a_1:List Duty)(x:Int×(List Duty)):qL a_1 x=lL a_1 (qL a_1) x:=bD (wS a_1) x
noncomputable def yM (a_1:List Duty):Option (List Duty):=
 (pA 32 (Duty.mk 0 0 0 0) (len a_1)).bind fun m2=>aW (ρ:=(List Duty)) (qL a_1 (0,m2)) fun u7:(List Duty)=>some u7
noncomputable def lx (a_1:List Int)(self:(Int×(List Int))→Option ((List Int)⊕(List Int)))(x3:Int×(List Int)):Option ((List Int)⊕(List Int)):=
 bif (decide (x3.1<(len a_1))) then ((aF a_1 x3.1).bind fun e4=>(aF x3.2 x3.1).bind fun e5=>self ((ar (x3.1+1)),(eM x3.2 x3.1 e4))) else (some (.inr x3.2))
noncomputable def qB (a_1:List Int): (Int×(List Int))→Option ((List Int)⊕(List Int)):=aE (lx a_1)
theorem wZ (a_1:List Int): ∀a,Fin1 fun f=>lx a_1 f a:=by
 intro a
 unfold lx
 repeat first|exact aR|exact br|refine bw ?_ ?_|refine bd ?_ (fun _=>?_)|refine be ?_ (fun _=>?_)|refine bm ?_ (fun _=>?_)|refine bx (fun _=>?_)
theorem Lw (a_1:List Int)(x:Int×(List Int)):qB a_1 x=lx a_1 (qB a_1) x:=bD (wZ a_1) x
noncomputable def zj (a_1:List Int):Option (List Int):=
 (pA 8 0 (len a_1)).bind fun m2=>aW (ρ:=(List Int)) (qB a_1 (0,m2)) fun u6:(List Int)=>some u6
noncomputable def sE (a_1:State):Option State:=
 (tY a_1.Facts).bind fun r2=>(yM a_1.Duties).bind fun r3=>(zj a_1.Balances).bind fun r4=>some (State.mk a_1.Day r2 r3 r4 a_1.Over)
noncomputable def cW (x_1:Int)(a_2:Int)(b_3:Int):Option Bool:=
 ch (bif (decide (x_1≥a_2)) then (decide (x_1≤b_3)) else false) fun u4:Bool=>some u4
noncomputable def tM (b_1:Int):Option Bool:=
 ch (bif (decide (b_1≥97)) then (ch (bif (decide (b_1≤122)) then true else (ch (bif (decide (b_1≥48)) then (decide (b_1≤57)) else false) fun u4:Bool=>u4)) fun u3:Bool=>u3) else (ch (bif (decide (b_1≥48)) then (decide (b_1≤57)) else false) fun u5:Bool=>u5)) fun u2:Bool=>some u2
noncomputable def la (s_1:ah)(self:Int→Option (Bool⊕Unit))(x4:Int):Option (Bool⊕Unit):=
 bif (decide (x4<(len s_1))) then ((aF s_1 x4).bind fun c5=>(tM (c5.toNat:Int)).bind fun r6=>bif (!r6) then (some (.inl false)) else (self (ar (x4+1)))) else (some (.inr ()))
noncomputable def ru (s_1:ah): Int→Option (Bool⊕Unit):=aE (la s_1)
theorem wr (s_1:ah): ∀a,Fin1 fun f=>la s_1 f a:=by
 intro a
 unfold la
 repeat first|exact aR|exact br|refine bw ?_ ?_|refine bd ?_ (fun _=>?_)|refine be ?_ (fun _=>?_)|refine bm ?_ (fun _=>?_)|refine bx (fun _=>?_)
theorem MS (s_1:ah)(x:Int):ru s_1 x=la s_1 (ru s_1) x:=bD (wr s_1) x
noncomputable def pb (s_1:ah):Option Bool:=
 (cW (len s_1) 1 8).bind fun r2=>aW (ρ:=Bool) (bif (!r2) then (some (.inr true)) else ((aF s_1 0).bind fun c16=>bZ (ρ:=Bool) (bif (decide ((c16.toNat:Int)<97)) then (some (.inr true)) else ((aF s_1 0).bind fun c18=>some (.inr (decide ((c18.toNat:Int)>122))))) fun u17:Bool=>some (.inr u17))) fun u3:Bool=>bif u3 then (some false) else (aW (ρ:=Bool) (ru s_1 0) fun u7:Unit=>ch (bif (s_1==([116,114,117,101]:ah)) then (s_1==([116,114,117,101]:ah)) else (ch (bif (s_1==([102,114,111,109]:ah)) then (s_1==([102,114,111,109]:ah)) else (ch (bif (s_1==([110,111,116]:ah)) then (s_1==([110,111,116]:ah)) else (ch (bif (s_1==([97,110,100]:ah)) then (s_1==([97,110,100]:ah)) else (ch (bif (s_1==([111,114]:ah)) then (s_1==([111,114]:ah)) else (ch (bif (s_1==([98,111,116,104]:ah)) then (s_1==([98,111,116,104]:ah)) else (ch (bif (s_1==([101,105,116,104,101,114]:ah)) then (s_1==([101,105,116,104,101,114]:ah)) else (ch (bif (s_1==([105,116]:ah)) then (s_1==([105,116]:ah)) else (s_1==([105,110]:ah))) fun u15:Bool=>u15)) fun u14:Bool=>u14)) fun u13:Bool=>u13)) fun u12:Bool=>u12)) fun u11:Bool=>u11)) fun u10:Bool=>u10)) fun u9:Bool=>u9)) fun u8:Bool=>bif u8 then (some false) else (some true))
noncomputable def jW (list_1:List ah)(name_2:ah)(self:Int→Option (Bool⊕Unit))(x3:Int):Option (Bool⊕Unit):=
 bif (decide (x3<(len list_1))) then ((aF list_1 x3).bind fun e4=>bif (e4==name_2) then (some (.inl true)) else (self (ar (x3+1)))) else (some (.inr ()))
noncomputable def oH (list_1:List ah)(name_2:ah): Int→Option (Bool⊕Unit):=aE (jW list_1 name_2)
theorem xf (list_1:List ah)(name_2:ah): ∀a,Fin1 fun f=>jW list_1 name_2 f a:=by
 intro a
 unfold jW
 repeat first|exact aR|exact br|refine bw ?_ ?_|refine bd ?_ (fun _=>?_)|refine be ?_ (fun _=>?_)|refine bm ?_ (fun _=>?_)|refine bx (fun _=>?_)
theorem Bd (list_1:List ah)(name_2:ah)(x:Int):oH list_1 name_2 x=jW list_1 name_2 (oH list_1 name_2) x:=bD (xf list_1 name_2) x
noncomputable def nR (list_1:List ah)(name_2:ah):Option Bool:=
 aW (ρ:=Bool) (oH list_1 name_2 0) fun u5:Unit=>some false
noncomputable def jw (c_1:Contract)(self:Int→Option (Bool⊕Unit))(x2:Int):Option (Bool⊕Unit):=
 bif (decide (x2<(len c_1.Parties))) then ((aF c_1.Parties x2).bind fun e3=>(pb e3).bind fun r4=>bZ (ρ:=Bool) (bif (!r4) then (some (.inr true)) else ((nM c_1.Parties 0 x2).bind fun s6=>(aF c_1.Parties x2).bind fun e7=>(nR s6 e7).bind fun r8=>some (.inr r8))) fun u5:Bool=>bif u5 then (some (.inl false)) else (self (ar (x2+1)))) else (some (.inr ()))
noncomputable def rD (c_1:Contract): Int→Option (Bool⊕Unit):=aE (jw c_1)
theorem wt (c_1:Contract): ∀a,Fin1 fun f=>jw c_1 f a:=by
 intro a
 unfold jw
 repeat first|exact aR|exact br|refine bw ?_ ?_|refine bd ?_ (fun _=>?_)|refine be ?_ (fun _=>?_)|refine bm ?_ (fun _=>?_)|refine bx (fun _=>?_)
theorem C6 (c_1:Contract)(x:Int):rD c_1 x=jw c_1 (rD c_1) x:=bD (wt c_1) x
noncomputable def uQ (c_1:Contract):Option Bool:=
 aW (ρ:=Bool) (rD c_1 0) fun u9:Unit=>(cW (len c_1.Parties) 2 4).bind fun r10=>some r10
noncomputable def ln (c_1:Contract)(id_2:ah)(self:Int→Option (Int⊕Unit))(x3:Int):Option (Int⊕Unit):=
 bif (decide (x3<(len c_1.Clauses))) then ((aF c_1.Clauses x3).bind fun e4=>bif (e4.Id==id_2) then (some (.inl x3)) else (self (ar (x3+1)))) else (some (.inr ()))
noncomputable def rm (c_1:Contract)(id_2:ah): Int→Option (Int⊕Unit):=aE (ln c_1 id_2)
theorem wu (c_1:Contract)(id_2:ah): ∀a,Fin1 fun f=>ln c_1 id_2 f a:=by
 intro a
 unfold ln
 repeat first|exact aR|exact br|refine bw ?_ ?_|refine bd ?_ (fun _=>?_)|refine be ?_ (fun _=>?_)|refine bm ?_ (fun _=>?_)|refine bx (fun _=>?_)
theorem Lx (c_1:Contract)(id_2:ah)(x:Int):rm c_1 id_2 x=ln c_1 id_2 (rm c_1 id_2) x:=bD (wu c_1 id_2) x
noncomputable def rX (c_1:Contract)(id_2:ah):Option Int:=
 aW (ρ:=Int) (rm c_1 id_2 0) fun u5:Unit=>some (-1)
noncomputable def pc (day_1:Int):Option Bool:=
 (cW day_1 0 36524).bind fun r2=>some r2
noncomputable def xR (c_1:Condition):Option Bool:=
 bif (c_1.Op==1) then (ch (bif ((len c_1.Parts)==0) then (ch (bif (c_1.Name==([]:ah)) then (c_1.Day==0) else false) fun u3:Bool=>u3) else false) fun u2:Bool=>some u2) else (bif (c_1.Op==2) then (aW (ρ:=Bool) (bif ((len c_1.Parts)==0) then ((pb c_1.Name).bind fun r5=>ch (bif r5 then (c_1.Day==0) else false) fun u6:Bool=>some (.inr u6)) else (some (.inr false))) fun u4:Bool=>some u4) else (bif (c_1.Op==3) then (aW (ρ:=Bool) (bif ((len c_1.Parts)==0) then (bZ (ρ:=Bool) (bif (c_1.Name==([]:ah)) then ((pc c_1.Day).bind fun r9=>some (.inr r9)) else (some (.inr false))) fun u8:Bool=>some (.inr u8)) else (some (.inr false))) fun u7:Bool=>some u7) else (bif (c_1.Op==4) then (ch (bif ((len c_1.Parts)==1) then (ch (bif (c_1.Name==([]:ah)) then (c_1.Day==0) else false) fun u11:Bool=>u11) else false) fun u10:Bool=>some u10) else (ch (bif (c_1.Op==5) then (c_1.Op==5) else (c_1.Op==6)) fun u12:Bool=>bif u12 then (ch (bif ((len c_1.Parts)==2) then (ch (bif (c_1.Name==([]:ah)) then (c_1.Day==0) else false) fun u14:Bool=>u14) else false) fun u13:Bool=>some u13) else (some false)))))
noncomputable def jy (slf_Ffdg:Condition→Option Bool)(c_1:Condition)(self:Int→Option (Bool⊕Unit))(x3:Int):Option (Bool⊕Unit):=
 bif (decide (x3<(len c_1.Parts))) then ((aF c_1.Parts x3).bind fun e4=>(slf_Ffdg e4).bind fun r5=>bif (!r5) then (some (.inl false)) else (self (ar (x3+1)))) else (some (.inr ()))
noncomputable def oE (slf_Ffdg:Condition→Option Bool)(c_1:Condition): Int→Option (Bool⊕Unit):=aE (jy slf_Ffdg c_1)
theorem xj (slf_Ffdg:Condition→Option Bool)(c_1:Condition): ∀a,Fin1 fun f=>jy slf_Ffdg c_1 f a:=by
 intro a
 unfold jy
 repeat first|exact aR|exact br|refine bw ?_ ?_|refine bd ?_ (fun _=>?_)|refine be ?_ (fun _=>?_)|refine bm ?_ (fun _=>?_)|refine bx (fun _=>?_)
theorem MG (slf_Ffdg:Condition→Option Bool)(c_1:Condition)(x:Int):oE slf_Ffdg c_1 x=jy slf_Ffdg c_1 (oE slf_Ffdg c_1) x:=bD (xj slf_Ffdg c_1) x
noncomputable def rA (slf_Ffdg:Condition→Option Bool)(c_1:Condition):Option Bool:=
 (xR c_1).bind fun r2=>bif (!r2) then (some false) else (aW (ρ:=Bool) (oE slf_Ffdg c_1 0) fun u6:Unit=>some true)
noncomputable def oS (slf_Ffdg:Condition→Option Bool)(x:Condition):Option Bool:=rA slf_Ffdg x
noncomputable def EF (c_1:Condition):Option Bool:=aE oS c_1
theorem Ty:∀x,Fin1 fun slf_Ffdg=>oS slf_Ffdg x:=by
 intro x
 unfold oS rA
 repeat first|exact aR|exact br|exact i7|exact lc|exact gF|exact jx|exact iy|exact iq|refine bw ?_ ?_|refine bd ?_ (fun _=>?_)|refine be ?_ (fun _=>?_)|refine bm ?_ (fun _=>?_)|refine bx (fun _=>?_)|refine pU (fun _=>?_) | unfold oE | unfold jy
theorem VC (c_1:Condition):EF c_1=rA (aE oS) c_1:=bD Ty c_1
noncomputable def ir (slf_Ffdo:Condition→Option Int)(c_1:Condition)(self:(Int×Int)→Option (Int⊕Int))(x2:Int×Int):Option (Int⊕Int):=
 bif (decide (x2.2<(len c_1.Parts))) then ((aF c_1.Parts x2.2).bind fun e3=>(slf_Ffdo e3).bind fun r4=>self ((ar (x2.1+r4)),(ar (x2.2+1)))) else (some (.inr x2.1))
noncomputable def kh (slf_Ffdo:Condition→Option Int)(c_1:Condition): (Int×Int)→Option (Int⊕Int):=aE (ir slf_Ffdo c_1)
theorem wL (slf_Ffdo:Condition→Option Int)(c_1:Condition): ∀a,Fin1 fun f=>ir slf_Ffdo c_1 f a:=by
 intro a
 unfold ir
 repeat first|exact aR|exact br|refine bw ?_ ?_|refine bd ?_ (fun _=>?_)|refine be ?_ (fun _=>?_)|refine bm ?_ (fun _=>?_)|refine bx (fun _=>?_)
theorem D3 (slf_Ffdo:Condition→Option Int)(c_1:Condition)(x:Int×Int):kh slf_Ffdo c_1 x=ir slf_Ffdo c_1 (kh slf_Ffdo c_1) x:=bD (wL slf_Ffdo c_1) x
noncomputable def rj (slf_Ffdo:Condition→Option Int)(c_1:Condition):Option Int:=
 aW (ρ:=Int) (kh slf_Ffdo c_1 (1,0)) fun u5:Int=>some u5
noncomputable def jE (slf_Ffdo:Condition→Option Int)(x:Condition):Option Int:=rj slf_Ffdo x
noncomputable def ID (c_1:Condition):Option Int:=aE jE c_1
theorem TH:∀x,Fin1 fun slf_Ffdo=>jE slf_Ffdo x:=by
 intro x
 unfold jE rj
 repeat first|exact aR|exact br|exact i7|exact lc|exact gF|exact jx|exact iy|exact iq|refine bw ?_ ?_|refine bd ?_ (fun _=>?_)|refine be ?_ (fun _=>?_)|refine bm ?_ (fun _=>?_)|refine bx (fun _=>?_)|refine pU (fun _=>?_) | unfold kh | unfold ir
theorem VN (c_1:Condition):ID c_1=rj (aE jE) c_1:=bD TH c_1
noncomputable def xL (c_1:Condition):Option Bool:=
 (EF c_1).bind fun r2=>aW (ρ:=Bool) (bif r2 then ((ID c_1).bind fun r4=>some (.inr (decide (r4≤15)))) else (some (.inr false))) fun u3:Bool=>some u3
noncomputable def xJ (c_1:Contract)(i_2:Int):Option Bool:=
 (aF c_1.Clauses i_2).bind fun e3=>(pb e3.Id).bind fun r4=>aW (ρ:=Bool) (bif (!r4) then (some (.inr true)) else ((pb e3.Action).bind fun r17=>bZ (ρ:=Bool) (bif (!r17) then (some (.inr true)) else ((cW e3.Kind 1 4).bind fun r19=>bZ (ρ:=Bool) (bif (!r19) then (some (.inr true)) else ((cW e3.Party 0 (ar ((len c_1.Parties) - 1))).bind fun r21=>bZ (ρ:=Bool) (bif (!r21) then (some (.inr true)) else ((cW e3.Other 0 (ar ((len c_1.Parties) - 1))).bind fun r23=>bZ (ρ:=Bool) (bif (!r23) then (some (.inr true)) else (bZ (ρ:=Bool) (bif (e3.Party==e3.Other) then (some (.inr true)) else ((xL e3.When).bind fun r26=>some (.inr (!r26)))) fun u25:Bool=>some (.inr u25))) fun u24:Bool=>some (.inr u24))) fun u22:Bool=>some (.inr u22))) fun u20:Bool=>some (.inr u20))) fun u18:Bool=>some (.inr u18))) fun u5:Bool=>bif u5 then (some false) else ((cW e3.Amount 0 1000000).bind fun r6=>aW (ρ:=Bool) (bif (!r6) then (some (.inr true)) else ((cW e3.Within 0 400).bind fun r13=>ch (bif (!r13) then true else (ch (bif (e3.Kind != 1) then (ch (bif (e3.Amount != 0) then true else (e3.Within != 0)) fun u16:Bool=>u16) else false) fun u15:Bool=>u15)) fun u14:Bool=>some (.inr u14))) fun u7:Bool=>bif u7 then (some false) else (bif (e3.Repair==([]:ah)) then (some true) else ((rX c_1 e3.Repair).bind fun r8=>aW (ρ:=Bool) (bif (decide (r8≥0)) then (bZ (ρ:=Bool) (bif (r8 != i_2) then ((aF c_1.Clauses r8).bind fun e11=>ch (bif (e11.Kind==1) then (e3.Kind != 3) else false) fun u12:Bool=>some (.inr u12)) else (some (.inr false))) fun u10:Bool=>some (.inr u10)) else (some (.inr false))) fun u9:Bool=>some u9)))
noncomputable def jp (l_8:List ah)(s_9:ah)(self:Int→Option ((List ah)⊕(ah×Int×(List ah))))(x3:Int):Option ((List ah)⊕(ah×Int×(List ah))):=
 bZ (ρ:=(List ah)) (bif (decide (x3<(len l_8))) then ((aF l_8 x3).bind fun e5=>some (.inr (Op.bytesLess e5 s_9))) else (some (.inr false))) fun u4:Bool=>bif u4 then (self (ar (x3+1))) else (some (.inr (s_9,x3,l_8)))
noncomputable def rB (l_8:List ah)(s_9:ah): Int→Option ((List ah)⊕(ah×Int×(List ah))):=aE (jp l_8 s_9)
theorem xe (l_8:List ah)(s_9:ah): ∀a,Fin1 fun f=>jp l_8 s_9 f a:=by
 intro a
 unfold jp
 repeat first|exact aR|exact br|refine bw ?_ ?_|refine bd ?_ (fun _=>?_)|refine be ?_ (fun _=>?_)|refine bm ?_ (fun _=>?_)|refine bx (fun _=>?_)
theorem DZ (l_8:List ah)(s_9:ah)(x:Int):rB l_8 s_9 x=jp l_8 s_9 (rB l_8 s_9) x:=bD (xe l_8 s_9) x
noncomputable def uz (l_8:List ah)(s_9:ah):Option (List ah):=
 aW (ρ:=(List ah)) (rB l_8 s_9 0) fun u6:ah×Int×(List ah)=>aW (ρ:=(List ah)) (bif (decide (u6.2.1<(len u6.2.2))) then ((aF u6.2.2 u6.2.1).bind fun e15=>some (.inr (e15==u6.1))) else (some (.inr false))) fun u7:Bool=>bif u7 then (some u6.2.2) else ((gJ u6.2.2.length 0 u6.2.1).bind fun s8=>(gW u6.2.2 (0+Int.toNat (0)) (Int.toNat u6.2.1 - Int.toNat (0))).bind fun p9=>(gO 16 ([]:List ah) p9).bind fun a10=>(gO 16 a10 [u6.1]).bind fun a11=>(gJ u6.2.2.length u6.2.1 (len u6.2.2)).bind fun s12=>(gW u6.2.2 (0+Int.toNat u6.2.1) (Int.toNat (len u6.2.2) - Int.toNat u6.2.1)).bind fun p13=>(gO 16 a11 p13).bind fun a14=>some a14)
noncomputable def ip (slf_Ffdl:((List ah)×Condition)→Option (List ah))(l_4:List ah)(c_5:Condition)(self:(Int×(List ah))→Option ((List ah)⊕(List ah)))(x4:Int×(List ah)):Option ((List ah)⊕(List ah)):=
 bif (decide (x4.1<(len c_5.Parts))) then ((aF c_5.Parts x4.1).bind fun e5=>(slf_Ffdl (x4.2,e5)).bind fun r6=>self ((ar (x4.1+1)),r6)) else (some (.inr x4.2))
noncomputable def kj (slf_Ffdl:((List ah)×Condition)→Option (List ah))(l_4:List ah)(c_5:Condition): (Int×(List ah))→Option ((List ah)⊕(List ah)):=aE (ip slf_Ffdl l_4 c_5)
theorem wh (slf_Ffdl:((List ah)×Condition)→Option (List ah))(l_4:List ah)(c_5:Condition): ∀a,Fin1 fun f=>ip slf_Ffdl l_4 c_5 f a:=by
 intro a
 unfold ip
 repeat first|exact aR|exact br|refine bw ?_ ?_|refine bd ?_ (fun _=>?_)|refine be ?_ (fun _=>?_)|refine bm ?_ (fun _=>?_)|refine bx (fun _=>?_)
theorem De (slf_Ffdl:((List ah)×Condition)→Option (List ah))(l_4:List ah)(c_5:Condition)(x:Int×(List ah)):kj slf_Ffdl l_4 c_5 x=ip slf_Ffdl l_4 c_5 (kj slf_Ffdl l_4 c_5) x:=bD (wh slf_Ffdl l_4 c_5) x
noncomputable def rc (slf_Ffdl:((List ah)×Condition)→Option (List ah))(l_4:List ah)(c_5:Condition):Option (List ah):=
 bif (c_5.Op==2) then ((uz l_4 c_5.Name).bind fun r3=>some r3) else (aW (ρ:=(List ah)) (kj slf_Ffdl l_4 c_5 (0,l_4)) fun u7:(List ah)=>some u7)
noncomputable def jG (slf_Ffdl:((List ah)×Condition)→Option (List ah))(x:(List ah)×Condition):Option (List ah):=rc slf_Ffdl x.1 x.2
noncomputable def H7 (l_4:List ah)(c_5:Condition):Option (List ah):=aE jG (l_4,c_5)
theorem RC:∀x,Fin1 fun slf_Ffdl=>jG slf_Ffdl x:=by
 intro x
 unfold jG rc
 repeat first|exact aR|exact br|exact i7|exact lc|exact gF|exact jx|exact iy|exact iq|refine bw ?_ ?_|refine bd ?_ (fun _=>?_)|refine be ?_ (fun _=>?_)|refine bm ?_ (fun _=>?_)|refine bx (fun _=>?_)|refine pU (fun _=>?_) | unfold kj | unfold ip
theorem VO (l_4:List ah)(c_5:Condition):H7 l_4 c_5=rc (aE jG) l_4 c_5:=bD RC (l_4,c_5)
noncomputable def jD (c_1:Contract)(self:(Int×(List ah))→Option ((List ah)⊕(List ah)))(x2:Int×(List ah)):Option ((List ah)⊕(List ah)):=
 bif (decide (x2.1<(len c_1.Clauses))) then ((aF c_1.Clauses x2.1).bind fun e3=>(uz x2.2 e3.Action).bind fun r4=>(aF c_1.Clauses x2.1).bind fun e5=>(H7 r4 e5.When).bind fun r6=>self ((ar (x2.1+1)),r6)) else (some (.inr x2.2))
noncomputable def lC (c_1:Contract): (Int×(List ah))→Option ((List ah)⊕(List ah)):=aE (jD c_1)
theorem xm (c_1:Contract): ∀a,Fin1 fun f=>jD c_1 f a:=by
 intro a
 unfold jD
 repeat first|exact aR|exact br|refine bw ?_ ?_|refine bd ?_ (fun _=>?_)|refine be ?_ (fun _=>?_)|refine bm ?_ (fun _=>?_)|refine bx (fun _=>?_)
theorem DP (c_1:Contract)(x:Int×(List ah)):lC c_1 x=jD c_1 (lC c_1) x:=bD (xm c_1) x
noncomputable def nL (c_1:Contract):Option (List ah):=
 aW (ρ:=(List ah)) (lC c_1 (0,[])) fun u7:(List ah)=>some u7
noncomputable def jJ (c_1:Contract)(self:Int→Option (Bool⊕Unit))(x4:Int):Option (Bool⊕Unit):=
 bif (decide (x4<(len c_1.Clauses))) then ((aF c_1.Clauses x4).bind fun e5=>(rX c_1 e5.Id).bind fun r6=>bZ (ρ:=Bool) (bif (r6 != x4) then (some (.inr true)) else ((xJ c_1 x4).bind fun r8=>some (.inr (!r8)))) fun u7:Bool=>bif u7 then (some (.inl false)) else (self (ar (x4+1)))) else (some (.inr ()))
noncomputable def ke (c_1:Contract): Int→Option (Bool⊕Unit):=aE (jJ c_1)
theorem wv (c_1:Contract): ∀a,Fin1 fun f=>jJ c_1 f a:=by
 intro a
 unfold jJ
 repeat first|exact aR|exact br|refine bw ?_ ?_|refine bd ?_ (fun _=>?_)|refine be ?_ (fun _=>?_)|refine bm ?_ (fun _=>?_)|refine bx (fun _=>?_)
theorem Bt (c_1:Contract)(x:Int):ke c_1 x=jJ c_1 (ke c_1) x:=bD (wv c_1) x
noncomputable def zw (c_1:Contract):Option Bool:=
 (cW (len c_1.Clauses) 1 12).bind fun r2=>aW (ρ:=Bool) (bif (!r2) then (some (.inr true)) else ((uQ c_1).bind fun r11=>some (.inr (!r11)))) fun u3:Bool=>bif u3 then (some false) else (aW (ρ:=Bool) (ke c_1 0) fun u9:Unit=>(nL c_1).bind fun r10=>some (decide ((len r10)≤16)))
noncomputable def io (list_1:List ah)(self:Int→Option (Bool⊕Unit))(x2:Int):Option (Bool⊕Unit):=
 ch (bif (decide (x2<(len list_1))) then (decide (x2≤16)) else false) fun u3:Bool=>bif u3 then ((aF list_1 x2).bind fun e4=>(pb e4).bind fun r5=>bZ (ρ:=Bool) (bif (!r5) then (some (.inr true)) else (bZ (ρ:=Bool) (bif (decide (x2>0)) then ((aF list_1 (ar (x2 - 1))).bind fun e8=>(aF list_1 x2).bind fun e9=>some (.inr (!(Op.bytesLess e8 e9)))) else (some (.inr false))) fun u7:Bool=>some (.inr u7))) fun u6:Bool=>bif u6 then (some (.inl false)) else (self (ar (x2+1)))) else (some (.inr ()))
noncomputable def gv (list_1:List ah): Int→Option (Bool⊕Unit):=aE (io list_1)
theorem wC (list_1:List ah): ∀a,Fin1 fun f=>io list_1 f a:=by
 intro a
 unfold io
 repeat first|exact aR|exact br|refine bw ?_ ?_|refine bd ?_ (fun _=>?_)|refine be ?_ (fun _=>?_)|refine bm ?_ (fun _=>?_)|refine bx (fun _=>?_)
theorem rQ (list_1:List ah)(x:Int):gv list_1 x=io list_1 (gv list_1) x:=bD (wC list_1) x
noncomputable def zr (list_1:List ah):Option Bool:=
 aW (ρ:=Bool) (gv list_1 0) fun u10:Unit=>some (decide ((len list_1)≤16))
noncomputable def lb (c_1:Contract)(i_2:Int)(self:Int→Option (Bool⊕Unit))(x3:Int):Option (Bool⊕Unit):=
 bif (decide (x3<(len c_1.Clauses))) then ((aF c_1.Clauses x3).bind fun e4=>(aF c_1.Clauses i_2).bind fun e5=>bif (e4.Repair==e5.Id) then (some (.inl true)) else (self (ar (x3+1)))) else (some (.inr ()))
noncomputable def qZ (c_1:Contract)(i_2:Int): Int→Option (Bool⊕Unit):=aE (lb c_1 i_2)
theorem wq (c_1:Contract)(i_2:Int): ∀a,Fin1 fun f=>lb c_1 i_2 f a:=by
 intro a
 unfold lb
 repeat first|exact aR|exact br|refine bw ?_ ?_|refine bd ?_ (fun _=>?_)|refine be ?_ (fun _=>?_)|refine bm ?_ (fun _=>?_)|refine bx (fun _=>?_)
theorem LM (c_1:Contract)(i_2:Int)(x:Int):qZ c_1 i_2 x=lb c_1 i_2 (qZ c_1 i_2) x:=bD (wq c_1 i_2) x
noncomputable def zA (c_1:Contract)(i_2:Int):Option Bool:=
 aW (ρ:=Bool) (qZ c_1 i_2 0) fun u6:Unit=>some false
noncomputable def jV (s_1:State)(i_2:Int)(self:(Int×Int)→Option (Int⊕Int))(x3:Int×Int):Option (Int⊕Int):=
 bif (decide (x3.2<(len s_1.Duties))) then ((aF s_1.Duties x3.2).bind fun e4=>ch (bif (e4.Clause==i_2) then (ar (x3.1+1)) else x3.1) fun u5:Int=>self (u5,(ar (x3.2+1)))) else (some (.inr x3.1))
noncomputable def kg (s_1:State)(i_2:Int): (Int×Int)→Option (Int⊕Int):=aE (jV s_1 i_2)
theorem wQ (s_1:State)(i_2:Int): ∀a,Fin1 fun f=>jV s_1 i_2 f a:=by
 intro a
 unfold jV
 repeat first|exact aR|exact br|refine bw ?_ ?_|refine bd ?_ (fun _=>?_)|refine be ?_ (fun _=>?_)|refine bm ?_ (fun _=>?_)|refine bx (fun _=>?_)
theorem AF (s_1:State)(i_2:Int)(x:Int×Int):kg s_1 i_2 x=jV s_1 i_2 (kg s_1 i_2) x:=bD (wQ s_1 i_2) x
noncomputable def yD (s_1:State)(i_2:Int):Option Int:=
 aW (ρ:=Int) (kg s_1 i_2 (0,0)) fun u6:Int=>some u6
noncomputable def ye (c_1:Contract)(s_2:State)(k_3:Int):Option Bool:=
 (aF s_2.Duties k_3).bind fun e4=>(cW e4.Clause 0 (ar ((len c_1.Clauses) - 1))).bind fun r5=>aW (ρ:=Bool) (bif (!r5) then (some (.inr true)) else ((aF c_1.Clauses e4.Clause).bind fun e35=>bZ (ρ:=Bool) (bif (e35.Kind != 1) then (some (.inr true)) else ((cW e4.Since 0 s_2.Day).bind fun r37=>bZ (ρ:=Bool) (bif (!r37) then (some (.inr true)) else ((aF c_1.Clauses e4.Clause).bind fun e39=>bZ (ρ:=Bool) (bif (e4.Due != (ar (e4.Since+e39.Within))) then (some (.inr true)) else ((pc e4.Due).bind fun r41=>bZ (ρ:=Bool) (bif (!r41) then (some (.inr true)) else ((cW e4.Status 1 4).bind fun r43=>some (.inr (!r43)))) fun u42:Bool=>some (.inr u42))) fun u40:Bool=>some (.inr u40))) fun u38:Bool=>some (.inr u38))) fun u36:Bool=>some (.inr u36))) fun u6:Bool=>bif u6 then (some false) else (aW (ρ:=Bool) (bif (decide (k_3>0)) then ((aF s_2.Duties (ar (k_3 - 1))).bind fun e11=>ch (bif (decide (e11.Since>e4.Since)) then true else (ch (bif (e4.Status==1) then (ch (bif (decide (e4.Due<s_2.Day)) then true else (ch (bif s_2.Over then true else (ch (bif (e4.Status==3) then (ch (bif (decide (e4.Due≥s_2.Day)) then true else (ch (bif (e4.Status==4) then (!s_2.Over) else false) fun u18:Bool=>u18)) fun u17:Bool=>u17) else (ch (bif (e4.Status==4) then (!s_2.Over) else false) fun u19:Bool=>u19)) fun u16:Bool=>u16)) fun u15:Bool=>u15)) fun u14:Bool=>u14) else (ch (bif (e4.Status==3) then (ch (bif (decide (e4.Due≥s_2.Day)) then true else (ch (bif (e4.Status==4) then (!s_2.Over) else false) fun u22:Bool=>u22)) fun u21:Bool=>u21) else (ch (bif (e4.Status==4) then (!s_2.Over) else false) fun u23:Bool=>u23)) fun u20:Bool=>u20)) fun u13:Bool=>u13)) fun u12:Bool=>some (.inr u12)) else (ch (bif (e4.Status==1) then (ch (bif (decide (e4.Due<s_2.Day)) then true else (ch (bif s_2.Over then true else (ch (bif (e4.Status==3) then (ch (bif (decide (e4.Due≥s_2.Day)) then true else (ch (bif (e4.Status==4) then (!s_2.Over) else false) fun u29:Bool=>u29)) fun u28:Bool=>u28) else (ch (bif (e4.Status==4) then (!s_2.Over) else false) fun u30:Bool=>u30)) fun u27:Bool=>u27)) fun u26:Bool=>u26)) fun u25:Bool=>u25) else (ch (bif (e4.Status==3) then (ch (bif (decide (e4.Due≥s_2.Day)) then true else (ch (bif (e4.Status==4) then (!s_2.Over) else false) fun u33:Bool=>u33)) fun u32:Bool=>u32) else (ch (bif (e4.Status==4) then (!s_2.Over) else false) fun u34:Bool=>u34)) fun u31:Bool=>u31)) fun u24:Bool=>some (.inr u24))) fun u7:Bool=>bif u7 then (some false) else ((zA c_1 e4.Clause).bind fun r8=>aW (ρ:=Bool) (bif r8 then (some (.inr true)) else ((yD s_2 e4.Clause).bind fun r10=>some (.inr (r10==1)))) fun u9:Bool=>some u9))
noncomputable def yZ (x_1:Int):Option Bool:=
 (cW x_1 (-1000000000) 1000000000).bind fun r2=>some r2
noncomputable def jr (list_1:List Int)(self:(Int×Int)→Option (Int⊕Int))(x2:Int×Int):Option (Int⊕Int):=
 bif (decide (x2.2<(len list_1))) then ((aF list_1 x2.2).bind fun e3=>self ((ar (x2.1+e3)),(ar (x2.2+1)))) else (some (.inr x2.1))
noncomputable def jb (list_1:List Int): (Int×Int)→Option (Int⊕Int):=aE (jr list_1)
theorem v6 (list_1:List Int): ∀a,Fin1 fun f=>jr list_1 f a:=by
 intro a
 unfold jr
 repeat first|exact aR|exact br|refine bw ?_ ?_|refine bd ?_ (fun _=>?_)|refine be ?_ (fun _=>?_)|refine bm ?_ (fun _=>?_)|refine bx (fun _=>?_)
theorem AX (list_1:List Int)(x:Int×Int):jb list_1 x=jr list_1 (jb list_1) x:=bD (v6 list_1) x
noncomputable def si (list_1:List Int):Option Int:=
 aW (ρ:=Int) (jb list_1 (0,0)) fun u4:Int=>some u4
noncomputable def lP (c_1:Contract)(s_2:State)(r5:(List ah))(self:Int→Option (Bool⊕Unit))(x6:Int):Option (Bool⊕Unit):=
 bif (decide (x6<(len s_2.Facts))) then ((aF s_2.Facts x6).bind fun e7=>(nR r5 e7).bind fun r8=>bif (!r8) then (some (.inl false)) else (self (ar (x6+1)))) else (some (.inr ()))
noncomputable def rq (c_1:Contract)(s_2:State)(r5:(List ah)):Int→Option (Bool⊕Unit):=aE (lP c_1 s_2 r5)
theorem wE (c_1:Contract)(s_2:State)(r5:(List ah)):∀a,Fin1 fun f=>lP c_1 s_2 r5 f a:=by
 intro a
 unfold lP
 repeat first|exact aR|exact br|refine bw ?_ ?_|refine bd ?_ (fun _=>?_)|refine be ?_ (fun _=>?_)|refine bm ?_ (fun _=>?_)|refine bx (fun _=>?_)
theorem ME (c_1:Contract)(s_2:State)(r5:(List ah))(x:Int):rq c_1 s_2 r5 x=lP c_1 s_2 r5 (rq c_1 s_2 r5) x:=bD (wE c_1 s_2 r5) x
noncomputable def jS (c_1:Contract)(s_2:State)(self:Int→Option (Bool⊕Unit))(x10:Int):Option (Bool⊕Unit):=
 bif (decide (x10<(len s_2.Duties))) then ((ye c_1 s_2 x10).bind fun r11=>bif (!r11) then (some (.inl false)) else (self (ar (x10+1)))) else (some (.inr ()))
noncomputable def lu (c_1:Contract)(s_2:State): Int→Option (Bool⊕Unit):=aE (jS c_1 s_2)
theorem xb (c_1:Contract)(s_2:State): ∀a,Fin1 fun f=>jS c_1 s_2 f a:=by
 intro a
 unfold jS
 repeat first|exact aR|exact br|refine bw ?_ ?_|refine bd ?_ (fun _=>?_)|refine be ?_ (fun _=>?_)|refine bm ?_ (fun _=>?_)|refine bx (fun _=>?_)
theorem Ab (c_1:Contract)(s_2:State)(x:Int):lu c_1 s_2 x=jS c_1 s_2 (lu c_1 s_2) x:=bD (xb c_1 s_2) x
noncomputable def lD (c_1:Contract)(s_2:State)(self:Int→Option (Bool⊕Unit))(x13:Int):Option (Bool⊕Unit):=
 bif (decide (x13<(len s_2.Balances))) then ((aF s_2.Balances x13).bind fun e14=>(yZ e14).bind fun r15=>bif (!r15) then (some (.inl false)) else (self (ar (x13+1)))) else (some (.inr ()))
noncomputable def qT (c_1:Contract)(s_2:State): Int→Option (Bool⊕Unit):=aE (lD c_1 s_2)
theorem wA (c_1:Contract)(s_2:State): ∀a,Fin1 fun f=>lD c_1 s_2 f a:=by
 intro a
 unfold lD
 repeat first|exact aR|exact br|refine bw ?_ ?_|refine bd ?_ (fun _=>?_)|refine be ?_ (fun _=>?_)|refine bm ?_ (fun _=>?_)|refine bx (fun _=>?_)
theorem MP (c_1:Contract)(s_2:State)(x:Int):qT c_1 s_2 x=lD c_1 s_2 (qT c_1 s_2) x:=bD (wA c_1 s_2) x
noncomputable def sD (c_1:Contract)(s_2:State):Option Bool:=
 (zw c_1).bind fun r3=>aW (ρ:=Bool) (bif (!r3) then (some (.inr true)) else ((pc s_2.Day).bind fun r18=>bZ (ρ:=Bool) (bif (!r18) then (some (.inr true)) else ((zr s_2.Facts).bind fun r20=>ch (bif (!r20) then true else (ch (bif (decide ((len s_2.Duties)>24)) then true else ((len s_2.Balances) != (len c_1.Parties))) fun u22:Bool=>u22)) fun u21:Bool=>some (.inr u21))) fun u19:Bool=>some (.inr u19))) fun u4:Bool=>bif u4 then (some false) else ((nL c_1).bind fun r5=>aW (ρ:=Bool) (rq c_1 s_2 r5 0) fun u9:Unit=>aW (ρ:=Bool) (lu c_1 s_2 0) fun u12:Unit=>aW (ρ:=Bool) (qT c_1 s_2 0) fun u16:Unit=>(si s_2.Balances).bind fun r17=>some (r17==0))
noncomputable def rJ (slf_Ffdj:(Condition×(List ah)×Int)→Option Bool)(c_1:Condition)(facts_2:List ah)(day_3:Int):Option Bool:=
 bif (c_1.Op==1) then (some true) else (bif (c_1.Op==2) then ((nR facts_2 c_1.Name).bind fun r4=>some r4) else (bif (c_1.Op==3) then (some (decide (day_3≥c_1.Day))) else (bif (c_1.Op==4) then ((aF c_1.Parts 0).bind fun e5=>(slf_Ffdj (e5,facts_2,day_3)).bind fun r6=>some (!r6)) else (bif (c_1.Op==5) then ((aF c_1.Parts 0).bind fun e7=>(slf_Ffdj (e7,facts_2,day_3)).bind fun r8=>aW (ρ:=Bool) (bif r8 then ((aF c_1.Parts 1).bind fun e10=>(slf_Ffdj (e10,facts_2,day_3)).bind fun r11=>some (.inr r11)) else (some (.inr false))) fun u9:Bool=>some u9) else ((aF c_1.Parts 0).bind fun e12=>(slf_Ffdj (e12,facts_2,day_3)).bind fun r13=>aW (ρ:=Bool) (bif r13 then (some (.inr true)) else ((aF c_1.Parts 1).bind fun e15=>(slf_Ffdj (e15,facts_2,day_3)).bind fun r16=>some (.inr r16))) fun u14:Bool=>some u14)))))
noncomputable def jQ (slf_Ffdj:(Condition×(List ah)×Int)→Option Bool)(x:Condition×(List ah)×Int):Option Bool:=rJ slf_Ffdj x.1 x.2.1 x.2.2
noncomputable def ER (c_1:Condition)(facts_2:List ah)(day_3:Int):Option Bool:=aE jQ (c_1,facts_2,day_3)
theorem Rz:∀x,Fin1 fun slf_Ffdj=>jQ slf_Ffdj x:=by
 intro x
 unfold jQ rJ
 repeat first|exact aR|exact br|refine bw ?_ ?_|refine bd ?_ (fun _=>?_)|refine be ?_ (fun _=>?_)|refine bm ?_ (fun _=>?_)|refine bx (fun _=>?_)
theorem U0 (c_1:Condition)(facts_2:List ah)(day_3:Int):ER c_1 facts_2 day_3=rJ (aE jQ) c_1 facts_2 day_3:=bD Rz (c_1,facts_2,day_3)
noncomputable def yz (c_1:Contract)(s_2:State)(i_3:Int):Option (Bool×Bool):=
 (sD c_1 s_2).bind fun r4=>aW (ρ:=Bool×Bool) (bif (!r4) then (some (.inr true)) else ((cW i_3 0 (ar ((len c_1.Clauses) - 1))).bind fun r8=>some (.inr (!r8)))) fun u5:Bool=>bif u5 then (some (false,false)) else ((aF c_1.Clauses i_3).bind fun e6=>(ER e6.When s_2.Facts s_2.Day).bind fun r7=>some (r7,true))
noncomputable def gq (n_1:Int)(low_2:Int)(high_3:Int):Option Bool:=
 ch (bif (decide (n_1≥low_2)) then (decide (n_1≤high_3)) else false) fun u4:Bool=>some u4
noncomputable def HP (s_1:ah)(c_2:Int):Option Int:=
 (oX s_1 c_2).bind fun r3=>some r3
noncomputable def Jf (s_1:ah)(substr_2:ah):Option Int:=
 ch (bif ((len substr_2)==0) then true else (substr_2==s_1)) fun u3:Bool=>bif u3 then (some 0) else (bif ((len substr_2)==1) then ((aF substr_2 0).bind fun c4=>(HP s_1 (c4.toNat:Int)).bind fun r5=>some r5) else (bif (decide ((len substr_2)≥(len s_1))) then (some (-1)) else none))
noncomputable def EH (s_1:ah)(substr_2:ah):Option Int:=
 (Jf s_1 substr_2).bind fun r3=>some r3
noncomputable def pM (s_1:ah)(substr_2:ah)(self:(ah×Int)→Option (Int⊕Unit))(x5:ah×Int):Option (Int⊕Unit):=
 (EH x5.1 substr_2).bind fun r6=>bif (r6==(-1)) then (some (.inl x5.2)) else ((nM x5.1 (ar (r6+(len substr_2))) (len x5.1)).bind fun s7=>self (s7,(ar (x5.2+1))))
noncomputable def Lq (s_1:ah)(substr_2:ah): (ah×Int)→Option (Int⊕Unit):=aE (pM s_1 substr_2)
theorem JG (s_1:ah)(substr_2:ah): ∀a,Fin1 fun f=>pM s_1 substr_2 f a:=by
 intro a
 unfold pM
 repeat first|exact aR|exact br|refine bw ?_ ?_|refine bd ?_ (fun _=>?_)|refine be ?_ (fun _=>?_)|refine bm ?_ (fun _=>?_)|refine bx (fun _=>?_)
noncomputable def HO (s_1:ah)(substr_2:ah):Option Int:=
 bif ((len substr_2)==0) then none else (bif ((len substr_2)==1) then ((aF substr_2 0).bind fun c3=>(uI s_1 (c3.toNat:Int)).bind fun r4=>some r4) else (aW (ρ:=Int) (Lq s_1 substr_2 (s_1,0)) fun u8:Unit=>none))
noncomputable def pW (s_1:ah)(sep_2:ah)(sepSave_3:Int)(n_4:Int)(u5:Int)(self:(ah×Int×(List ah))→Option ((List ah)⊕(ah×Int×(List ah))))(x7:ah×Int×(List ah)):Option ((List ah)⊕(ah×Int×(List ah))):=
 bif (decide (x7.2.1<(ar ((if (ar ((len s_1)+1))<u5 then (ar ((len s_1)+1)) else u5) - 1)))) then ((EH x7.1 sep_2).bind fun r8=>bif (decide (r8<0)) then (some (.inr (x7.1,x7.2.1,x7.2.2))) else ((nM x7.1 0 (ar (r8+sepSave_3))).bind fun s9=>(aF x7.2.2 x7.2.1).bind fun e10=>(nM x7.1 (ar (r8+(len sep_2))) (len x7.1)).bind fun s11=>self (s11,(ar (x7.2.1+1)),(eM x7.2.2 x7.2.1 s9)))) else (some (.inr (x7.1,x7.2.1,x7.2.2)))
noncomputable def vy (s_1:ah)(sep_2:ah)(sepSave_3:Int)(n_4:Int)(u5:Int):(ah×Int×(List ah))→Option ((List ah)⊕(ah×Int×(List ah))):=aE (pW s_1 sep_2 sepSave_3 n_4 u5)
theorem xc (s_1:ah)(sep_2:ah)(sepSave_3:Int)(n_4:Int)(u5:Int):∀a,Fin1 fun f=>pW s_1 sep_2 sepSave_3 n_4 u5 f a:=by
 intro a
 unfold pW
 repeat first|exact aR|exact br|refine bw ?_ ?_|refine bd ?_ (fun _=>?_)|refine be ?_ (fun _=>?_)|refine bm ?_ (fun _=>?_)|refine bx (fun _=>?_)
noncomputable def Hy (s_1:ah)(sep_2:ah)(sepSave_3:Int)(n_4:Int):Option (List ah):=
 bif (n_4==0) then (some []) else (bif (sep_2==([]:ah)) then none else (aW (ρ:=(List ah)) (bif (decide (n_4<0)) then ((HO s_1 sep_2).bind fun r16=>some (.inr (ar (r16+1)))) else (some (.inr n_4))) fun u5:Int=>(pA 16 [] (if (ar ((len s_1)+1))<u5 then (ar ((len s_1)+1)) else u5)).bind fun m6=>aW (ρ:=(List ah)) (vy s_1 sep_2 sepSave_3 n_4 u5 (s_1,0,m6)) fun u12:ah×Int×(List ah)=>(aF u12.2.2 u12.2.1).bind fun e13=>(gJ (eM u12.2.2 u12.2.1 u12.1).length 0 (ar (u12.2.1+1))).bind fun s14=>(gW (eM u12.2.2 u12.2.1 u12.1) (0+Int.toNat (0)) (Int.toNat (ar (u12.2.1+1)) - Int.toNat (0))).bind fun p15=>some p15))
noncomputable def za (s_1:ah)(sep_2:ah):Option (List ah):=
 (Hy s_1 sep_2 0 (-1)).bind fun r3=>some r3
noncomputable def il (s_1:List ah)(v_2:ah)(self:Int→Option (Int⊕Unit))(x3:Int):Option (Int⊕Unit):=
 bif (decide (x3<(len s_1))) then ((aF s_1 x3).bind fun e4=>bif (v_2==e4) then (some (.inl x3)) else (self (ar (x3+1)))) else (some (.inr ()))
noncomputable def mM (s_1:List ah)(v_2:ah): Int→Option (Int⊕Unit):=aE (il s_1 v_2)
theorem wU (s_1:List ah)(v_2:ah): ∀a,Fin1 fun f=>il s_1 v_2 f a:=by
 intro a
 unfold il
 repeat first|exact aR|exact br|refine bw ?_ ?_|refine bd ?_ (fun _=>?_)|refine be ?_ (fun _=>?_)|refine bm ?_ (fun _=>?_)|refine bx (fun _=>?_)
theorem ss (s_1:List ah)(v_2:ah)(x:Int):mM s_1 v_2 x=il s_1 v_2 (mM s_1 v_2) x:=bD (wU s_1 v_2) x
noncomputable def vr (s_1:List ah)(v_2:ah):Option Int:=
 aW (ρ:=Int) (mM s_1 v_2 0) fun u5:Unit=>some (-1)
noncomputable def l6 (s_1:List ah)(v_2:ah):Option Bool:=
 (vr s_1 v_2).bind fun r3=>some (decide (r3≥0))
noncomputable def mP (s_1:ah)(self:Int→Option (Bool⊕Unit))(x4:Int):Option (Bool⊕Unit):=
 bif (decide (x4<(len s_1))) then ((aF s_1 x4).bind fun c5=>ch (bif (decide ((c5.toNat:Int)<97)) then (ch (bif (decide ((c5.toNat:Int)<48)) then true else (decide ((c5.toNat:Int)>57))) fun u7:Bool=>u7) else (ch (bif (decide ((c5.toNat:Int)>122)) then (ch (bif (decide ((c5.toNat:Int)<48)) then true else (decide ((c5.toNat:Int)>57))) fun u9:Bool=>u9) else false) fun u8:Bool=>u8)) fun u6:Bool=>bif u6 then (some (.inl false)) else (self (ar (x4+1)))) else (some (.inr ()))
noncomputable def ug (s_1:ah): Int→Option (Bool⊕Unit):=aE (mP s_1)
theorem BM (s_1:ah): ∀a,Fin1 fun f=>mP s_1 f a:=by
 intro a
 unfold mP
 repeat first|exact aR|exact br|refine bw ?_ ?_|refine bd ?_ (fun _=>?_)|refine be ?_ (fun _=>?_)|refine bm ?_ (fun _=>?_)|refine bx (fun _=>?_)
theorem Pj (s_1:ah)(x:Int):ug s_1 x=mP s_1 (ug s_1) x:=bD (BM s_1) x
noncomputable def tj (s_1:ah):Option Bool:=
 (gq (len s_1) 1 8).bind fun r2=>aW (ρ:=Bool) (bif (!r2) then (some (.inr true)) else ((aF s_1 0).bind fun c13=>bZ (ρ:=Bool) (bif (decide ((c13.toNat:Int)<97)) then (some (.inr true)) else ((aF s_1 0).bind fun c15=>some (.inr (decide ((c15.toNat:Int)>122))))) fun u14:Bool=>some (.inr u14))) fun u3:Bool=>bif u3 then (some false) else (aW (ρ:=Bool) (ug s_1 0) fun u10:Unit=>(za ([116,114,117,101,32,102,114,111,109,32,110,111,116,32,97,110,100,32,111,114,32,98,111,116,104,32,101,105,116,104,101,114,32,105,116,32,105,110]:ah) ([32]:ah)).bind fun r11=>(l6 r11 s_1).bind fun r12=>some (!r12))
noncomputable def kS (list_1:List ah)(self:Int→Option (Bool⊕Unit))(x2:Int):Option (Bool⊕Unit):=
 bif (decide (x2<(len list_1))) then ((aF list_1 x2).bind fun e3=>(tj e3).bind fun r4=>bZ (ρ:=Bool) (bif (!r4) then (some (.inr true)) else ((nM list_1 0 x2).bind fun s6=>(l6 s6 e3).bind fun r7=>some (.inr r7))) fun u5:Bool=>bif u5 then (some (.inl false)) else (self (ar (x2+1)))) else (some (.inr ()))
noncomputable def uG (list_1:List ah): Int→Option (Bool⊕Unit):=aE (kS list_1)
theorem B2 (list_1:List ah): ∀a,Fin1 fun f=>kS list_1 f a:=by
 intro a
 unfold kS
 repeat first|exact aR|exact br|refine bw ?_ ?_|refine bd ?_ (fun _=>?_)|refine be ?_ (fun _=>?_)|refine bm ?_ (fun _=>?_)|refine bx (fun _=>?_)
theorem FL (list_1:List ah)(x:Int):uG list_1 x=kS list_1 (uG list_1) x:=bD (B2 list_1) x
noncomputable def Hu (list_1:List ah):Option Bool:=
 aW (ρ:=Bool) (uG list_1 0) fun u8:Unit=>(gq (len list_1) 2 4).bind fun r9=>some r9
noncomputable def PL (x_1:Clause)(a_2:ah):Option Bool:=
 some (x_1.Id==a_2)
noncomputable def li (s_1:List Clause)(f_2:ah)(self:Int→Option (Int⊕Unit))(x3:Int):Option (Int⊕Unit):=
 bif (decide (x3<(len s_1))) then ((aF s_1 x3).bind fun e4=>(PL e4 f_2).bind fun r5=>bif r5 then (some (.inl x3)) else (self (ar (x3+1)))) else (some (.inr ()))
noncomputable def rp (s_1:List Clause)(f_2:ah): Int→Option (Int⊕Unit):=aE (li s_1 f_2)
theorem xi (s_1:List Clause)(f_2:ah): ∀a,Fin1 fun f=>li s_1 f_2 f a:=by
 intro a
 unfold li
 repeat first|exact aR|exact br|refine bw ?_ ?_|refine bd ?_ (fun _=>?_)|refine be ?_ (fun _=>?_)|refine bm ?_ (fun _=>?_)|refine bx (fun _=>?_)
theorem LV (s_1:List Clause)(f_2:ah)(x:Int):rp s_1 f_2 x=li s_1 f_2 (rp s_1 f_2) x:=bD (xi s_1 f_2) x
noncomputable def EQ (s_1:List Clause)(f_2:ah):Option Int:=
 aW (ρ:=Int) (rp s_1 f_2 0) fun u6:Unit=>some (-1)
noncomputable def BB (c_1:Contract)(id_2:ah):Option Int:=
 (EQ c_1.Clauses id_2).bind fun r3=>some r3
noncomputable def mz (day_1:Int):Option Bool:=
 (gq day_1 0 36524).bind fun r2=>some r2
noncomputable def jt (slf_Ffj:(Condition×Int)→Option Int)(c_1:Condition)(so_2:Int)(self:(Int×Int)→Option (Int⊕Int))(x5:Int×Int):Option (Int⊕Int):=
 bif (decide (x5.2<(len c_1.Parts))) then ((aF c_1.Parts x5.2).bind fun e6=>(slf_Ffj (e6,x5.1)).bind fun r7=>bif (decide (r7<0)) then (some (.inl (-1))) else (self (r7,(ar (x5.2+1))))) else (some (.inr x5.1))
noncomputable def kx (slf_Ffj:(Condition×Int)→Option Int)(c_1:Condition)(so_2:Int): (Int×Int)→Option (Int⊕Int):=aE (jt slf_Ffj c_1 so_2)
theorem D9 (slf_Ffj:(Condition×Int)→Option Int)(c_1:Condition)(so_2:Int): ∀a,Fin1 fun f=>jt slf_Ffj c_1 so_2 f a:=by
 intro a
 unfold jt
 repeat first|exact aR|exact br|refine bw ?_ ?_|refine bd ?_ (fun _=>?_)|refine be ?_ (fun _=>?_)|refine bm ?_ (fun _=>?_)|refine bx (fun _=>?_)
theorem FE (slf_Ffj:(Condition×Int)→Option Int)(c_1:Condition)(so_2:Int)(x:Int×Int):kx slf_Ffj c_1 so_2 x=jt slf_Ffj c_1 so_2 (kx slf_Ffj c_1 so_2) x:=bD (D9 slf_Ffj c_1 so_2) x
noncomputable def vz (slf_Ffj:(Condition×Int)→Option Int)(c_1:Condition)(so_2:Int):Option Int:=
 aW (ρ:=Int) (bif (decide ((ar (so_2+1))>15)) then (some (.inr true)) else ((gq c_1.Op 1 6).bind fun r20=>bZ (ρ:=Int) (bif (!r20) then (some (.inr true)) else ((aF [(-1),0,0,0,1,2,2] c_1.Op).bind fun e22=>some (.inr ((len c_1.Parts) != e22)))) fun u21:Bool=>some (.inr u21))) fun u3:Bool=>bif u3 then (some (-1)) else (aW (ρ:=Int) (bif (!((c_1.Op==2)==(!(c_1.Name==([]:ah))))) then (some (.inr true)) else (bZ (ρ:=Int) (bif (c_1.Op==2) then ((tj c_1.Name).bind fun r10=>bZ (ρ:=Int) (bif (!r10) then (some (.inr true)) else (bZ (ρ:=Int) (bif (c_1.Op != 3) then (bZ (ρ:=Int) (bif (c_1.Day != 0) then (some (.inr true)) else ((mz c_1.Day).bind fun r14=>some (.inr (!r14)))) fun u13:Bool=>some (.inr u13)) else ((mz c_1.Day).bind fun r15=>some (.inr (!r15)))) fun u12:Bool=>some (.inr u12))) fun u11:Bool=>some (.inr u11)) else (bZ (ρ:=Int) (bif (c_1.Op != 3) then (bZ (ρ:=Int) (bif (c_1.Day != 0) then (some (.inr true)) else ((mz c_1.Day).bind fun r18=>some (.inr (!r18)))) fun u17:Bool=>some (.inr u17)) else ((mz c_1.Day).bind fun r19=>some (.inr (!r19)))) fun u16:Bool=>some (.inr u16))) fun u9:Bool=>some (.inr u9))) fun u4:Bool=>bif u4 then (some (-1)) else (aW (ρ:=Int) (kx slf_Ffj c_1 so_2 ((ar (so_2+1)),0)) fun u8:Int=>some u8))
noncomputable def kL (slf_Ffj:(Condition×Int)→Option Int)(x:Condition×Int):Option Int:=vz slf_Ffj x.1 x.2
noncomputable def NC (c_1:Condition)(so_2:Int):Option Int:=aE kL (c_1,so_2)
theorem Vm:∀x,Fin1 fun slf_Ffj=>kL slf_Ffj x:=by
 intro x
 unfold kL vz
 repeat first|exact aR|exact br|exact i7|exact lc|exact gF|exact jx|exact iy|exact iq|refine bw ?_ ?_|refine bd ?_ (fun _=>?_)|refine be ?_ (fun _=>?_)|refine bm ?_ (fun _=>?_)|refine bx (fun _=>?_)|refine pU (fun _=>?_) | unfold kx | unfold jt
theorem Xb (c_1:Condition)(so_2:Int):NC c_1 so_2=vz (aE kL) c_1 so_2:=bD Vm (c_1,so_2)
noncomputable def Hz (c_1:Condition):Option Bool:=
 (NC c_1 0).bind fun r2=>some (decide (r2>0))
noncomputable def Ii (c_1:Contract)(i_2:Int):Option Bool:=
 (aF c_1.Clauses i_2).bind fun e3=>(tj e3.Id).bind fun r4=>aW (ρ:=Bool) (bif (!r4) then (some (.inr true)) else ((BB c_1 e3.Id).bind fun r23=>bZ (ρ:=Bool) (bif (r23 != i_2) then (some (.inr true)) else ((tj e3.Action).bind fun r25=>bZ (ρ:=Bool) (bif (!r25) then (some (.inr true)) else ((gq e3.Kind 1 4).bind fun r27=>some (.inr (!r27)))) fun u26:Bool=>some (.inr u26))) fun u24:Bool=>some (.inr u24))) fun u5:Bool=>bif u5 then (some false) else ((gq e3.Party 0 (ar ((len c_1.Parties) - 1))).bind fun r6=>aW (ρ:=Bool) (bif (!r6) then (some (.inr true)) else ((gq e3.Other 0 (ar ((len c_1.Parties) - 1))).bind fun r19=>bZ (ρ:=Bool) (bif (!r19) then (some (.inr true)) else (bZ (ρ:=Bool) (bif (e3.Party==e3.Other) then (some (.inr true)) else ((Hz e3.When).bind fun r22=>some (.inr (!r22)))) fun u21:Bool=>some (.inr u21))) fun u20:Bool=>some (.inr u20))) fun u7:Bool=>bif u7 then (some false) else ((gq e3.Amount 0 1000000).bind fun r8=>aW (ρ:=Bool) (bif (!r8) then (some (.inr true)) else ((gq e3.Within 0 400).bind fun r15=>ch (bif (!r15) then true else (ch (bif (e3.Kind != 1) then (ch (bif (e3.Amount != 0) then true else (e3.Within != 0)) fun u18:Bool=>u18) else false) fun u17:Bool=>u17)) fun u16:Bool=>some (.inr u16))) fun u9:Bool=>bif u9 then (some false) else (bif (e3.Repair==([]:ah)) then (some true) else ((BB c_1 e3.Repair).bind fun r10=>aW (ρ:=Bool) (bif (e3.Kind != 3) then (bZ (ρ:=Bool) (bif (decide (r10≥0)) then (bZ (ρ:=Bool) (bif (r10 != i_2) then ((aF c_1.Clauses r10).bind fun e14=>some (.inr (e14.Kind==1))) else (some (.inr false))) fun u13:Bool=>some (.inr u13)) else (some (.inr false))) fun u12:Bool=>some (.inr u12)) else (some (.inr false))) fun u11:Bool=>some u11))))
noncomputable def jT (slf_Fff:(Condition×(List ah))→Option (List ah))(c_3:Condition)(list_4:List ah)(self:(Int×(List ah))→Option ((List ah)⊕(List ah)))(x4:Int×(List ah)):Option ((List ah)⊕(List ah)):=
 bif (decide (x4.1<(len c_3.Parts))) then ((aF c_3.Parts x4.1).bind fun e5=>(slf_Fff (e5,x4.2)).bind fun r6=>self ((ar (x4.1+1)),r6)) else (some (.inr x4.2))
noncomputable def lU (slf_Fff:(Condition×(List ah))→Option (List ah))(c_3:Condition)(list_4:List ah): (Int×(List ah))→Option ((List ah)⊕(List ah)):=aE (jT slf_Fff c_3 list_4)
theorem CO (slf_Fff:(Condition×(List ah))→Option (List ah))(c_3:Condition)(list_4:List ah): ∀a,Fin1 fun f=>jT slf_Fff c_3 list_4 f a:=by
 intro a
 unfold jT
 repeat first|exact aR|exact br|refine bw ?_ ?_|refine bd ?_ (fun _=>?_)|refine be ?_ (fun _=>?_)|refine bm ?_ (fun _=>?_)|refine bx (fun _=>?_)
theorem Fr (slf_Fff:(Condition×(List ah))→Option (List ah))(c_3:Condition)(list_4:List ah)(x:Int×(List ah)):lU slf_Fff c_3 list_4 x=jT slf_Fff c_3 list_4 (lU slf_Fff c_3 list_4) x:=bD (CO slf_Fff c_3 list_4) x
noncomputable def vD (slf_Fff:(Condition×(List ah))→Option (List ah))(c_3:Condition)(list_4:List ah):Option (List ah):=
 aW (ρ:=(List ah)) (bif (c_3.Op==2) then ((gO 16 list_4 [c_3.Name]).bind fun a8=>some (.inr a8)) else (some (.inr list_4))) fun u3:(List ah)=>aW (ρ:=(List ah)) (lU slf_Fff c_3 list_4 (0,u3)) fun u7:(List ah)=>some u7
noncomputable def md (slf_Fff:(Condition×(List ah))→Option (List ah))(x:Condition×(List ah)):Option (List ah):=vD slf_Fff x.1 x.2
noncomputable def O0 (c_3:Condition)(list_4:List ah):Option (List ah):=aE md (c_3,list_4)
theorem V7:∀x,Fin1 fun slf_Fff=>md slf_Fff x:=by
 intro x
 unfold md vD
 repeat first|exact aR|exact br|exact i7|exact lc|exact gF|exact jx|exact iy|exact iq|refine bw ?_ ?_|refine bd ?_ (fun _=>?_)|refine be ?_ (fun _=>?_)|refine bm ?_ (fun _=>?_)|refine bx (fun _=>?_)|refine pU (fun _=>?_) | unfold lU | unfold jT
theorem WM (c_3:Condition)(list_4:List ah):O0 c_3 list_4=vD (aE md) c_3 list_4:=bD V7 (c_3,list_4)
noncomputable def jO (s_2:List ah)(x2:Int)(self:(Int×Int×(List ah))→Option ((List ah)⊕(Int×(List ah))))(x6:Int×Int×(List ah)):Option ((List ah)⊕(Int×(List ah))):=
 bif (decide (x6.2.1<(((Int.toNat (len s_2) - Int.toNat x2):Nat):Int))) then ((sw x6.2.2 (0+Int.toNat x2) (Int.toNat (len s_2) - Int.toNat x2) x6.2.1).bind fun e7=>(sw x6.2.2 (0+Int.toNat x2) (Int.toNat (len s_2) - Int.toNat x2) (ar (x6.2.1 - 1))).bind fun e8=>bZ (ρ:=(List ah)) (bif (!(e7==e8)) then ((sw x6.2.2 (0+Int.toNat x2) (Int.toNat (len s_2) - Int.toNat x2) x6.2.1).bind fun e10=>(aF x6.2.2 x6.1).bind fun e11=>some (.inr ((ar (x6.1+1)),(eM x6.2.2 x6.1 e10)))) else (some (.inr (x6.1,x6.2.2)))) fun u9:Int×(List ah)=>self (u9.1,(ar (x6.2.1+1)),u9.2)) else (some (.inr (x6.1,x6.2.2)))
noncomputable def jc (s_2:List ah)(x2:Int):(Int×Int×(List ah))→Option ((List ah)⊕(Int×(List ah))):=aE (jO s_2 x2)
theorem we (s_2:List ah)(x2:Int):∀a,Fin1 fun f=>jO s_2 x2 f a:=by
 intro a
 unfold jO
 repeat first|exact aR|exact br|refine bw ?_ ?_|refine bd ?_ (fun _=>?_)|refine be ?_ (fun _=>?_)|refine bm ?_ (fun _=>?_)|refine bx (fun _=>?_)
theorem Aj (s_2:List ah)(x2:Int)(x:Int×Int×(List ah)):jc s_2 x2 x=jO s_2 x2 (jc s_2 x2) x:=bD (we s_2 x2) x
noncomputable def jL (s_2:List ah)(self:Int→Option ((List ah)⊕(List ah)))(x2:Int):Option ((List ah)⊕(List ah)):=
 bif (decide (x2<(len s_2))) then ((aF s_2 x2).bind fun e3=>(aF s_2 (ar (x2 - 1))).bind fun e4=>bif (e3==e4) then ((gJ s_2.length x2 (len s_2)).bind fun s5=>bZ (ρ:=(List ah)) (jc s_2 x2 (x2,1,s_2)) fun u15:Int×(List ah)=>(gJ u15.2.length u15.1 (len u15.2)).bind fun s16=>(ve u15.2 (0+Int.toNat u15.1) (Int.toNat (len u15.2) - Int.toNat u15.1) []).bind fun k17=>(gJ k17.length 0 u15.1).bind fun s18=>(gW k17 (0+Int.toNat (0)) (Int.toNat u15.1 - Int.toNat (0))).bind fun p19=>some (.inl p19)) else (self (ar (x2+1)))) else (some (.inr s_2))
noncomputable def oK (s_2:List ah): Int→Option ((List ah)⊕(List ah)):=aE (jL s_2)
theorem wY (s_2:List ah): ∀a,Fin1 fun f=>jL s_2 f a:=by
 intro a
 unfold jL
 repeat first|exact aR|exact br|refine bw ?_ ?_|refine bd ?_ (fun _=>?_)|refine be ?_ (fun _=>?_)|refine bm ?_ (fun _=>?_)|refine bx (fun _=>?_)
theorem A6 (s_2:List ah)(x:Int):oK s_2 x=jL s_2 (oK s_2) x:=bD (wY s_2) x
noncomputable def xZ (s_2:List ah):Option (List ah):=
 bif (decide ((len s_2)<2)) then (some s_2) else (aW (ρ:=(List ah)) (oK s_2 1) fun u20:(List ah)=>some u20)
noncomputable def zT (list_5:List ah):Option (List ah):=
 (qM list_5).bind fun r2=>bif Nat.beq r2.length list_5.length then ((xZ r2).bind fun r4=>some r4) else none
noncomputable def kY (c_1:Contract)(self:(Int×(List ah))→Option ((List ah)⊕(List ah)))(x2:Int×(List ah)):Option ((List ah)⊕(List ah)):=
 bif (decide (x2.1<(len c_1.Clauses))) then ((aF c_1.Clauses x2.1).bind fun e3=>(gO 16 x2.2 [e3.Action]).bind fun a4=>(O0 e3.When a4).bind fun r5=>self ((ar (x2.1+1)),r5)) else (some (.inr x2.2))
noncomputable def nt (c_1:Contract): (Int×(List ah))→Option ((List ah)⊕(List ah)):=aE (kY c_1)
theorem Bm (c_1:Contract): ∀a,Fin1 fun f=>kY c_1 f a:=by
 intro a
 unfold kY
 repeat first|exact aR|exact br|refine bw ?_ ?_|refine bd ?_ (fun _=>?_)|refine be ?_ (fun _=>?_)|refine bm ?_ (fun _=>?_)|refine bx (fun _=>?_)
theorem Fo (c_1:Contract)(x:Int×(List ah)):nt c_1 x=kY c_1 (nt c_1) x:=bD (Bm c_1) x
noncomputable def tA (c_1:Contract):Option (List ah):=
 aW (ρ:=(List ah)) (nt c_1 (0,[])) fun u6:(List ah)=>(zT u6).bind fun r7=>some r7
noncomputable def kX (c_1:Contract)(self:Int→Option (Bool⊕Unit))(x4:Int):Option (Bool⊕Unit):=
 bif (decide (x4<(len c_1.Clauses))) then ((Ii c_1 x4).bind fun r5=>bif (!r5) then (some (.inl false)) else (self (ar (x4+1)))) else (some (.inr ()))
noncomputable def mg (c_1:Contract): Int→Option (Bool⊕Unit):=aE (kX c_1)
theorem BQ (c_1:Contract): ∀a,Fin1 fun f=>kX c_1 f a:=by
 intro a
 unfold kX
 repeat first|exact aR|exact br|refine bw ?_ ?_|refine bd ?_ (fun _=>?_)|refine be ?_ (fun _=>?_)|refine bm ?_ (fun _=>?_)|refine bx (fun _=>?_)
theorem FX (c_1:Contract)(x:Int):mg c_1 x=kX c_1 (mg c_1) x:=bD (BQ c_1) x
noncomputable def H6 (c_1:Contract):Option Bool:=
 (Hu c_1.Parties).bind fun r2=>aW (ρ:=Bool) (bif (!r2) then (some (.inr true)) else ((gq (len c_1.Clauses) 1 12).bind fun r8=>some (.inr (!r8)))) fun u3:Bool=>bif u3 then (some false) else (aW (ρ:=Bool) (mg c_1 0) fun u6:Unit=>(tA c_1).bind fun r7=>some (decide ((len r7)≤16)))
noncomputable def kQ (facts_1:List ah)(self:Int→Option (Bool⊕Unit))(x2:Int):Option (Bool⊕Unit):=
 bif (decide (x2<(len facts_1))) then ((aF facts_1 x2).bind fun e3=>(tj e3).bind fun r4=>bZ (ρ:=Bool) (bif (!r4) then (some (.inr true)) else (bZ (ρ:=Bool) (bif (decide (x2>0)) then ((aF facts_1 (ar (x2 - 1))).bind fun e7=>some (.inr (Op.bytesLess e3 e7||e3==e7))) else (some (.inr false))) fun u6:Bool=>some (.inr u6))) fun u5:Bool=>bif u5 then (some (.inl false)) else (self (ar (x2+1)))) else (some (.inr ()))
noncomputable def lX (facts_1:List ah): Int→Option (Bool⊕Unit):=aE (kQ facts_1)
theorem Cq (facts_1:List ah): ∀a,Fin1 fun f=>kQ facts_1 f a:=by
 intro a
 unfold kQ
 repeat first|exact aR|exact br|refine bw ?_ ?_|refine bd ?_ (fun _=>?_)|refine be ?_ (fun _=>?_)|refine bm ?_ (fun _=>?_)|refine bx (fun _=>?_)
theorem F3 (facts_1:List ah)(x:Int):lX facts_1 x=kQ facts_1 (lX facts_1) x:=bD (Cq facts_1) x
noncomputable def IE (facts_1:List ah):Option Bool:=
 aW (ρ:=Bool) (lX facts_1 0) fun u8:Unit=>some (decide ((len facts_1)≤16))
noncomputable def IK (f_1:ah)(a_2:List ah):Option Bool:=
 (l6 a_2 f_1).bind fun r3=>some (!r3)
noncomputable def lj (s_1:List ah)(f_2:(List ah))(self:Int→Option (Int⊕Unit))(x3:Int):Option (Int⊕Unit):=
 bif (decide (x3<(len s_1))) then ((aF s_1 x3).bind fun e4=>(IK e4 f_2).bind fun r5=>bif r5 then (some (.inl x3)) else (self (ar (x3+1)))) else (some (.inr ()))
noncomputable def rd (s_1:List ah)(f_2:(List ah)): Int→Option (Int⊕Unit):=aE (lj s_1 f_2)
theorem wN (s_1:List ah)(f_2:(List ah)): ∀a,Fin1 fun f=>lj s_1 f_2 f a:=by
 intro a
 unfold lj
 repeat first|exact aR|exact br|refine bw ?_ ?_|refine bd ?_ (fun _=>?_)|refine be ?_ (fun _=>?_)|refine bm ?_ (fun _=>?_)|refine bx (fun _=>?_)
theorem L3 (s_1:List ah)(f_2:(List ah))(x:Int):rd s_1 f_2 x=lj s_1 f_2 (rd s_1 f_2) x:=bD (wN s_1 f_2) x
noncomputable def Fe (s_1:List ah)(f_2:(List ah)):Option Int:=
 aW (ρ:=Int) (rd s_1 f_2 0) fun u6:Unit=>some (-1)
noncomputable def EU (s_1:List ah)(f_2:(List ah)):Option Bool:=
 (Fe s_1 f_2).bind fun r3=>some (decide (r3≥0))
noncomputable def pK (list_1:List Int)(self:(Int×Int)→Option (Int⊕Int))(x2:Int×Int):Option (Int⊕Int):=
 bif (decide (x2.2<(len list_1))) then ((aF list_1 x2.2).bind fun e3=>self ((ar (x2.1+e3)),(ar (x2.2+1)))) else (some (.inr x2.1))
noncomputable def Fd (list_1:List Int): (Int×Int)→Option (Int⊕Int):=aE (pK list_1)
theorem J9 (list_1:List Int): ∀a,Fin1 fun f=>pK list_1 f a:=by
 intro a
 unfold pK
 repeat first|exact aR|exact br|refine bw ?_ ?_|refine bd ?_ (fun _=>?_)|refine be ?_ (fun _=>?_)|refine bm ?_ (fun _=>?_)|refine bx (fun _=>?_)
noncomputable def tZ (list_1:List Int):Option Int:=
 aW (ρ:=Int) (Fd list_1 (0,0)) fun u4:Int=>some u4
noncomputable def HH (x_1:Clause)(a_2:Contract)(a_3:Int):Option Bool:=
 (aF a_2.Clauses a_3).bind fun e4=>some (x_1.Repair==e4.Id)
noncomputable def kZ (s_1:List Clause)(f_2:Contract×Int)(self:Int→Option (Int⊕Unit))(x3:Int):Option (Int⊕Unit):=
 bif (decide (x3<(len s_1))) then ((aF s_1 x3).bind fun e4=>(HH e4 f_2.1 f_2.2).bind fun r5=>bif r5 then (some (.inl x3)) else (self (ar (x3+1)))) else (some (.inr ()))
noncomputable def qH (s_1:List Clause)(f_2:Contract×Int): Int→Option (Int⊕Unit):=aE (kZ s_1 f_2)
theorem wD (s_1:List Clause)(f_2:Contract×Int): ∀a,Fin1 fun f=>kZ s_1 f_2 f a:=by
 intro a
 unfold kZ
 repeat first|exact aR|exact br|refine bw ?_ ?_|refine bd ?_ (fun _=>?_)|refine be ?_ (fun _=>?_)|refine bm ?_ (fun _=>?_)|refine bx (fun _=>?_)
theorem Mk (s_1:List Clause)(f_2:Contract×Int)(x:Int):qH s_1 f_2 x=kZ s_1 f_2 (qH s_1 f_2) x:=bD (wD s_1 f_2) x
noncomputable def EW (s_1:List Clause)(f_2:Contract×Int):Option Int:=
 aW (ρ:=Int) (qH s_1 f_2 0) fun u6:Unit=>some (-1)
noncomputable def E6 (s_1:List Clause)(f_2:Contract×Int):Option Bool:=
 (EW s_1 (f_2.1,f_2.2)).bind fun r3=>some (decide (r3≥0))
noncomputable def Hq (c_1:Contract)(i_2:Int):Option Bool:=
 (E6 c_1.Clauses (c_1,i_2)).bind fun r3=>some r3
noncomputable def KI (other_1:Duty)(a_2:Duty):Option Bool:=
 some (other_1.Clause==a_2.Clause)
noncomputable def lF (s_1:List Duty)(f_2:Duty)(self:Int→Option (Int⊕Unit))(x3:Int):Option (Int⊕Unit):=
 bif (decide (x3<(len s_1))) then ((aF s_1 x3).bind fun e4=>(KI e4 f_2).bind fun r5=>bif r5 then (some (.inl x3)) else (self (ar (x3+1)))) else (some (.inr ()))
noncomputable def qC (s_1:List Duty)(f_2:Duty): Int→Option (Int⊕Unit):=aE (lF s_1 f_2)
theorem wo (s_1:List Duty)(f_2:Duty): ∀a,Fin1 fun f=>lF s_1 f_2 f a:=by
 intro a
 unfold lF
 repeat first|exact aR|exact br|refine bw ?_ ?_|refine bd ?_ (fun _=>?_)|refine be ?_ (fun _=>?_)|refine bm ?_ (fun _=>?_)|refine bx (fun _=>?_)
theorem LL (s_1:List Duty)(f_2:Duty)(x:Int):qC s_1 f_2 x=lF s_1 f_2 (qC s_1 f_2) x:=bD (wo s_1 f_2) x
noncomputable def E0 (s_1:List Duty)(f_2:Duty):Option Int:=
 aW (ρ:=Int) (qC s_1 f_2 0) fun u6:Unit=>some (-1)
noncomputable def EN (s_1:List Duty)(f_2:Duty):Option Bool:=
 (E0 s_1 f_2).bind fun r3=>some (decide (r3≥0))
noncomputable def Jc (c_1:Contract)(s_2:State)(i_3:Int):Option Bool:=
 (aF s_2.Duties i_3).bind fun e4=>(gq e4.Clause 0 (ar ((len c_1.Clauses) - 1))).bind fun r5=>aW (ρ:=Bool) (bif (!r5) then (some (.inr true)) else ((aF c_1.Clauses e4.Clause).bind fun e18=>bZ (ρ:=Bool) (bif (e18.Kind != 1) then (some (.inr true)) else ((gq e4.Since 0 s_2.Day).bind fun r20=>some (.inr (!r20)))) fun u19:Bool=>some (.inr u19))) fun u6:Bool=>bif u6 then (some false) else ((aF c_1.Clauses e4.Clause).bind fun e7=>aW (ρ:=Bool) (bif (e4.Due != (ar (e4.Since+e7.Within))) then (some (.inr true)) else ((mz e4.Due).bind fun r14=>bZ (ρ:=Bool) (bif (!r14) then (some (.inr true)) else (bZ (ρ:=Bool) (bif (decide (i_3>0)) then ((aF s_2.Duties (ar (i_3 - 1))).bind fun e17=>some (.inr (decide (e4.Since<e17.Since)))) else (some (.inr false))) fun u16:Bool=>some (.inr u16))) fun u15:Bool=>some (.inr u15))) fun u8:Bool=>bif u8 then (some false) else ((Hq c_1 e4.Clause).bind fun r9=>aW (ρ:=Bool) (bif (!r9) then ((nM s_2.Duties 0 i_3).bind fun s12=>(EN s12 e4).bind fun r13=>some (.inr r13)) else (some (.inr false))) fun u10:Bool=>bif u10 then (some false) else (bif (e4.Status==1) then (ch (bif (decide (e4.Due≥s_2.Day)) then (!s_2.Over) else false) fun u11:Bool=>some u11) else (bif (e4.Status==2) then (some true) else (bif (e4.Status==3) then (some (decide (e4.Due<s_2.Day))) else (bif (e4.Status==4) then (some s_2.Over) else (some false)))))))
noncomputable def KE (x_1:Int):Option Bool:=
 (gq x_1 (-1000000000) 1000000000).bind fun r2=>some r2
noncomputable def Hj (b_1:Int):Option Bool:=
 (KE b_1).bind fun r2=>some (!r2)
noncomputable def lr (s_1:List Int)(f_2:Unit)(self:Int→Option (Int⊕Unit))(x3:Int):Option (Int⊕Unit):=
 bif (decide (x3<(len s_1))) then ((aF s_1 x3).bind fun e4=>(Hj e4).bind fun r5=>bif r5 then (some (.inl x3)) else (self (ar (x3+1)))) else (some (.inr ()))
noncomputable def qR (s_1:List Int)(f_2:Unit): Int→Option (Int⊕Unit):=aE (lr s_1 f_2)
theorem wn (s_1:List Int)(f_2:Unit): ∀a,Fin1 fun f=>lr s_1 f_2 f a:=by
 intro a
 unfold lr
 repeat first|exact aR|exact br|refine bw ?_ ?_|refine bd ?_ (fun _=>?_)|refine be ?_ (fun _=>?_)|refine bm ?_ (fun _=>?_)|refine bx (fun _=>?_)
theorem Mo (s_1:List Int)(f_2:Unit)(x:Int):qR s_1 f_2 x=lr s_1 f_2 (qR s_1 f_2) x:=bD (wn s_1 f_2) x
noncomputable def Em (s_1:List Int)(f_2:Unit):Option Int:=
 aW (ρ:=Int) (qR s_1 f_2 0) fun u6:Unit=>some (-1)
noncomputable def Ew (s_1:List Int)(f_2:Unit):Option Bool:=
 (Em s_1 ()).bind fun r3=>some (decide (r3≥0))
noncomputable def kU (c_1:Contract)(s_2:State)(self:Int→Option (Bool⊕Unit))(x7:Int):Option (Bool⊕Unit):=
 bif (decide (x7<(len s_2.Duties))) then ((Jc c_1 s_2 x7).bind fun r8=>bif (!r8) then (some (.inl false)) else (self (ar (x7+1)))) else (some (.inr ()))
noncomputable def nB (c_1:Contract)(s_2:State): Int→Option (Bool⊕Unit):=aE (kU c_1 s_2)
theorem Dx (c_1:Contract)(s_2:State): ∀a,Fin1 fun f=>kU c_1 s_2 f a:=by
 intro a
 unfold kU
 repeat first|exact aR|exact br|refine bw ?_ ?_|refine bd ?_ (fun _=>?_)|refine be ?_ (fun _=>?_)|refine bm ?_ (fun _=>?_)|refine bx (fun _=>?_)
theorem F0 (c_1:Contract)(s_2:State)(x:Int):nB c_1 s_2 x=kU c_1 s_2 (nB c_1 s_2) x:=bD (Dx c_1 s_2) x
noncomputable def IW (c_1:Contract)(s_2:State):Option Bool:=
 (tA c_1).bind fun r3=>(mz s_2.Day).bind fun r4=>aW (ρ:=Bool) (bif (!r4) then (some (.inr true)) else ((IE s_2.Facts).bind fun r13=>bZ (ρ:=Bool) (bif (!r13) then (some (.inr true)) else ((EU s_2.Facts r3).bind fun r15=>some (.inr r15))) fun u14:Bool=>some (.inr u14))) fun u5:Bool=>bif u5 then (some false) else (aW (ρ:=Bool) (bif (decide ((len s_2.Duties)>24)) then (some (.inr true)) else (bZ (ρ:=Bool) (bif ((len s_2.Balances) != (len c_1.Parties)) then (some (.inr true)) else ((tZ s_2.Balances).bind fun r12=>some (.inr (r12 != 0)))) fun u11:Bool=>some (.inr u11))) fun u6:Bool=>bif u6 then (some false) else (aW (ρ:=Bool) (nB c_1 s_2 0) fun u9:Unit=>(Ew s_2.Balances ()).bind fun r10=>some (!r10)))
noncomputable def FO (c_1:Contract)(s_2:State):Option Bool:=
 (H6 c_1).bind fun r3=>aW (ρ:=Bool) (bif r3 then ((IW c_1 s_2).bind fun r5=>some (.inr r5)) else (some (.inr false))) fun u4:Bool=>some u4
noncomputable def xK (s_1:List ah):Option (List ah):=
 vc s_1 (some []) ((gO 16 ([]:List ah) s_1).bind fun a2=>some a2)
noncomputable def yO (s_1:List Duty):Option (List Duty):=
 vc s_1 (some []) ((gO 32 ([]:List Duty) s_1).bind fun a2=>some a2)
noncomputable def yi (s_1:List Int):Option (List Int):=
 vc s_1 (some []) ((gO 8 ([]:List Int) s_1).bind fun a2=>some a2)
noncomputable def Hi (s_1:State):Option State:=
 (xK s_1.Facts).bind fun r2=>(yO s_1.Duties).bind fun r3=>(yi s_1.Balances).bind fun r4=>some (State.mk s_1.Day r2 r3 r4 s_1.Over)
noncomputable def Hv (c_1:Contract)(s_2:State):Option machine:=
 (Hi s_2).bind fun r3=>(tA c_1).bind fun r4=>some (machine.mk c_1 r3 r4 [] false)
noncomputable def vN (slf_Ffk:(Condition×(List ah)×Int)→Option Bool)(c_1:Condition)(facts_2:List ah)(day_3:Int):Option Bool:=
 bif (c_1.Op==2) then ((l6 facts_2 c_1.Name).bind fun r4=>some r4) else (bif (c_1.Op==3) then (some (decide (day_3≥c_1.Day))) else (bif (c_1.Op==4) then ((aF c_1.Parts 0).bind fun e5=>(slf_Ffk (e5,facts_2,day_3)).bind fun r6=>some (!r6)) else (bif (c_1.Op==5) then ((aF c_1.Parts 0).bind fun e7=>(slf_Ffk (e7,facts_2,day_3)).bind fun r8=>aW (ρ:=Bool) (bif r8 then ((aF c_1.Parts 1).bind fun e10=>(slf_Ffk (e10,facts_2,day_3)).bind fun r11=>some (.inr r11)) else (some (.inr false))) fun u9:Bool=>some u9) else (bif (c_1.Op==6) then ((aF c_1.Parts 0).bind fun e12=>(slf_Ffk (e12,facts_2,day_3)).bind fun r13=>aW (ρ:=Bool) (bif r13 then (some (.inr true)) else ((aF c_1.Parts 1).bind fun e15=>(slf_Ffk (e15,facts_2,day_3)).bind fun r16=>some (.inr r16))) fun u14:Bool=>some u14) else (some true)))))
noncomputable def l5 (slf_Ffk:(Condition×(List ah)×Int)→Option Bool)(x:Condition×(List ah)×Int):Option Bool:=vN slf_Ffk x.1 x.2.1 x.2.2
noncomputable def Il (c_1:Condition)(facts_2:List ah)(day_3:Int):Option Bool:=aE l5 (c_1,facts_2,day_3)
theorem Vs:∀x,Fin1 fun slf_Ffk=>l5 slf_Ffk x:=by
 intro x
 unfold l5 vN
 repeat first|exact aR|exact br|refine bw ?_ ?_|refine bd ?_ (fun _=>?_)|refine be ?_ (fun _=>?_)|refine bm ?_ (fun _=>?_)|refine bx (fun _=>?_)
theorem X7 (c_1:Condition)(facts_2:List ah)(day_3:Int):Il c_1 facts_2 day_3=vN (aE l5) c_1 facts_2 day_3:=bD Vs (c_1,facts_2,day_3)
noncomputable def IU (m_1:machine)(x_2:Clause):Option Bool:=
 (Il x_2.When m_1.f_s.Facts m_1.f_s.Day).bind fun r3=>some r3
noncomputable def Jd (c_1:Contract)(s_2:State)(i_3:Int):Option (Bool×Bool):=
 (FO c_1 s_2).bind fun r4=>aW (ρ:=Bool×Bool) (bif (!r4) then (some (.inr true)) else ((gq i_3 0 (ar ((len c_1.Clauses) - 1))).bind fun r9=>some (.inr (!r9)))) fun u5:Bool=>bif u5 then (some (false,false)) else ((Hv c_1 s_2).bind fun r6=>(aF c_1.Clauses i_3).bind fun e7=>(IU r6 e7).bind fun r8=>some (r8,true))
noncomputable def lh (a_1:List ah)(b_2:List ah)(self:Int→Option (Bool⊕Unit))(x3:Int):Option (Bool⊕Unit):=
 bif (decide (x3<(len a_1))) then ((aF a_1 x3).bind fun e4=>(aF b_2 x3).bind fun e5=>bif (!(e4==e5)) then (some (.inl false)) else (self (ar (x3+1)))) else (some (.inr ()))
noncomputable def ro (a_1:List ah)(b_2:List ah): Int→Option (Bool⊕Unit):=aE (lh a_1 b_2)
theorem wG (a_1:List ah)(b_2:List ah): ∀a,Fin1 fun f=>lh a_1 b_2 f a:=by
 intro a
 unfold lh
 repeat first|exact aR|exact br|refine bw ?_ ?_|refine bd ?_ (fun _=>?_)|refine be ?_ (fun _=>?_)|refine bm ?_ (fun _=>?_)|refine bx (fun _=>?_)
theorem LE (a_1:List ah)(b_2:List ah)(x:Int):ro a_1 b_2 x=lh a_1 b_2 (ro a_1 b_2) x:=bD (wG a_1 b_2) x
noncomputable def uO (a_1:List ah)(b_2:List ah):Option Bool:=
 bif ((len a_1) != (len b_2)) then (some false) else (aW (ρ:=Bool) (ro a_1 b_2 0) fun u6:Unit=>some true)
noncomputable def jU (slf_Ffbh:(Condition×Condition)→Option Bool)(a_1:List Condition)(b_2:List Condition)(self:Int→Option (Bool⊕Unit))(x3:Int):Option (Bool⊕Unit):=
 bif (decide (x3<(len a_1))) then ((aF a_1 x3).bind fun e4=>(aF b_2 x3).bind fun e5=>(slf_Ffbh (e4,e5)).bind fun r6=>bif (!r6) then (some (.inl false)) else (self (ar (x3+1)))) else (some (.inr ()))
noncomputable def oJ (slf_Ffbh:(Condition×Condition)→Option Bool)(a_1:List Condition)(b_2:List Condition): Int→Option (Bool⊕Unit):=aE (jU slf_Ffbh a_1 b_2)
theorem wi (slf_Ffbh:(Condition×Condition)→Option Bool)(a_1:List Condition)(b_2:List Condition): ∀a,Fin1 fun f=>jU slf_Ffbh a_1 b_2 f a:=by
 intro a
 unfold jU
 repeat first|exact aR|exact br|refine bw ?_ ?_|refine bd ?_ (fun _=>?_)|refine be ?_ (fun _=>?_)|refine bm ?_ (fun _=>?_)|refine bx (fun _=>?_)
theorem L5 (slf_Ffbh:(Condition×Condition)→Option Bool)(a_1:List Condition)(b_2:List Condition)(x:Int):oJ slf_Ffbh a_1 b_2 x=jU slf_Ffbh a_1 b_2 (oJ slf_Ffbh a_1 b_2) x:=bD (wi slf_Ffbh a_1 b_2) x
noncomputable def tF (slf_Ffbh:(Condition×Condition)→Option Bool)(a_1:List Condition)(b_2:List Condition):Option Bool:=
 bif ((len a_1) != (len b_2)) then (some false) else (aW (ρ:=Bool) (oJ slf_Ffbh a_1 b_2 0) fun u7:Unit=>some true)
noncomputable def rl (slf_Ffbh:(Condition×Condition)→Option Bool)(a_1:Condition)(b_2:Condition):Option Bool:=
 bif (a_1.Op != b_2.Op) then (some false) else (bif (!(a_1.Name==b_2.Name)) then (some false) else (bif (a_1.Day != b_2.Day) then (some false) else ((tF slf_Ffbh a_1.Parts b_2.Parts).bind fun r3=>bif (!r3) then (some false) else (some true))))
noncomputable def no (slf_Ffbh:(Condition×Condition)→Option Bool)(x:Condition×Condition):Option Bool:=rl slf_Ffbh x.1 x.2
noncomputable def xN (a_1:Condition)(b_2:Condition):Option Bool:=aE no (a_1,b_2)
theorem Sj:∀x,Fin1 fun slf_Ffbh=>no slf_Ffbh x:=by
 intro x
 unfold no rl
 repeat first|exact aR|exact br|exact i7|exact lc|exact gF|exact jx|exact iy|exact iq|refine bw ?_ ?_|refine bd ?_ (fun _=>?_)|refine be ?_ (fun _=>?_)|refine bm ?_ (fun _=>?_)|refine bx (fun _=>?_)|refine pU (fun _=>?_) | unfold tF | unfold oJ | unfold jU
theorem VI (a_1:Condition)(b_2:Condition):xN a_1 b_2=rl (aE no) a_1 b_2:=bD Sj (a_1,b_2)
noncomputable def vd (a_1:Clause)(b_2:Clause):Option Bool:=
 bif (!(a_1.Id==b_2.Id)) then (some false) else (bif (a_1.Kind != b_2.Kind) then (some false) else (bif (a_1.Party != b_2.Party) then (some false) else (bif (!(a_1.Action==b_2.Action)) then (some false) else (bif (a_1.Other != b_2.Other) then (some false) else (bif (a_1.Amount != b_2.Amount) then (some false) else ((xN a_1.When b_2.When).bind fun r3=>bif (!r3) then (some false) else (bif (a_1.Within != b_2.Within) then (some false) else (bif (!(a_1.Repair==b_2.Repair)) then (some false) else (some true)))))))))
noncomputable def lI (a_1:List Clause)(b_2:List Clause)(self:Int→Option (Bool⊕Unit))(x3:Int):Option (Bool⊕Unit):=
 bif (decide (x3<(len a_1))) then ((aF a_1 x3).bind fun e4=>(aF b_2 x3).bind fun e5=>(vd e4 e5).bind fun r6=>bif (!r6) then (some (.inl false)) else (self (ar (x3+1)))) else (some (.inr ()))
noncomputable def qw (a_1:List Clause)(b_2:List Clause): Int→Option (Bool⊕Unit):=aE (lI a_1 b_2)
theorem xa (a_1:List Clause)(b_2:List Clause): ∀a,Fin1 fun f=>lI a_1 b_2 f a:=by
 intro a
 unfold lI
 repeat first|exact aR|exact br|refine bw ?_ ?_|refine bd ?_ (fun _=>?_)|refine be ?_ (fun _=>?_)|refine bm ?_ (fun _=>?_)|refine bx (fun _=>?_)
theorem MB (a_1:List Clause)(b_2:List Clause)(x:Int):qw a_1 b_2 x=lI a_1 b_2 (qw a_1 b_2) x:=bD (xa a_1 b_2) x
noncomputable def zz (a_1:List Clause)(b_2:List Clause):Option Bool:=
 bif ((len a_1) != (len b_2)) then (some false) else (aW (ρ:=Bool) (qw a_1 b_2 0) fun u7:Unit=>some true)
noncomputable def zR (a_1:Contract)(b_2:Contract):Option Bool:=
 (uO a_1.Parties b_2.Parties).bind fun r3=>bif (!r3) then (some false) else ((zz a_1.Clauses b_2.Clauses).bind fun r4=>bif (!r4) then (some false) else (some true))
noncomputable def vb (a_1:Duty)(b_2:Duty):Option Bool:=
 bif (a_1.Clause != b_2.Clause) then (some false) else (bif (a_1.Since != b_2.Since) then (some false) else (bif (a_1.Due != b_2.Due) then (some false) else (bif (a_1.Status != b_2.Status) then (some false) else (some true))))
noncomputable def lM (a_1:List Duty)(b_2:List Duty)(self:Int→Option (Bool⊕Unit))(x3:Int):Option (Bool⊕Unit):=
 bif (decide (x3<(len a_1))) then ((aF a_1 x3).bind fun e4=>(aF b_2 x3).bind fun e5=>(vb e4 e5).bind fun r6=>bif (!r6) then (some (.inl false)) else (self (ar (x3+1)))) else (some (.inr ()))
noncomputable def qX (a_1:List Duty)(b_2:List Duty): Int→Option (Bool⊕Unit):=aE (lM a_1 b_2)
theorem wx (a_1:List Duty)(b_2:List Duty): ∀a,Fin1 fun f=>lM a_1 b_2 f a:=by
 intro a
 unfold lM
 repeat first|exact aR|exact br|refine bw ?_ ?_|refine bd ?_ (fun _=>?_)|refine be ?_ (fun _=>?_)|refine bm ?_ (fun _=>?_)|refine bx (fun _=>?_)
theorem MA (a_1:List Duty)(b_2:List Duty)(x:Int):qX a_1 b_2 x=lM a_1 b_2 (qX a_1 b_2) x:=bD (wx a_1 b_2) x
noncomputable def yp (a_1:List Duty)(b_2:List Duty):Option Bool:=
 bif ((len a_1) != (len b_2)) then (some false) else (aW (ρ:=Bool) (qX a_1 b_2 0) fun u7:Unit=>some true)
noncomputable def lw (a_1:List Int)(b_2:List Int)(self:Int→Option (Bool⊕Unit))(x3:Int):Option (Bool⊕Unit):=
 bif (decide (x3<(len a_1))) then ((aF a_1 x3).bind fun e4=>(aF b_2 x3).bind fun e5=>bif (e4 != e5) then (some (.inl false)) else (self (ar (x3+1)))) else (some (.inr ()))
noncomputable def qO (a_1:List Int)(b_2:List Int): Int→Option (Bool⊕Unit):=aE (lw a_1 b_2)
theorem xl (a_1:List Int)(b_2:List Int): ∀a,Fin1 fun f=>lw a_1 b_2 f a:=by
 intro a
 unfold lw
 repeat first|exact aR|exact br|refine bw ?_ ?_|refine bd ?_ (fun _=>?_)|refine be ?_ (fun _=>?_)|refine bm ?_ (fun _=>?_)|refine bx (fun _=>?_)
theorem Mx (a_1:List Int)(b_2:List Int)(x:Int):qO a_1 b_2 x=lw a_1 b_2 (qO a_1 b_2) x:=bD (xl a_1 b_2) x
noncomputable def xu (a_1:List Int)(b_2:List Int):Option Bool:=
 bif ((len a_1) != (len b_2)) then (some false) else (aW (ρ:=Bool) (qO a_1 b_2 0) fun u6:Unit=>some true)
noncomputable def yU (a_1:State)(b_2:State):Option Bool:=
 bif (a_1.Day != b_2.Day) then (some false) else ((uO a_1.Facts b_2.Facts).bind fun r3=>bif (!r3) then (some false) else ((yp a_1.Duties b_2.Duties).bind fun r4=>bif (!r4) then (some false) else ((xu a_1.Balances b_2.Balances).bind fun r5=>bif (!r5) then (some false) else (bif (!(a_1.Over==b_2.Over)) then (some false) else (some true)))))
noncomputable def ek (aC_1:Contract)(aS_2:State)(aI_3:Int):Option Bool:=
 (yy aC_1 1048576).bind fun r4=>bif (decide (r4<0)) then (some true) else ((zq aS_2 r4).bind fun r5=>bif (decide (r5<0)) then (some true) else ((sk aC_1).bind fun r6=>(sE aS_2).bind fun r7=>(yz r6 r7 aI_3).bind fun r8=>(sk aC_1).bind fun r9=>(sE aS_2).bind fun r10=>(Jd r9 r10 aI_3).bind fun r11=>ch (bif (!(r11.1==r8.1)) then true else (!(r11.2==r8.2))) fun u12:Bool=>bif u12 then (some false) else ((sk aC_1).bind fun r13=>(zR r9 r13).bind fun r14=>bif (!r14) then (some false) else ((sE aS_2).bind fun r15=>(yU r10 r15).bind fun r16=>bif (!r16) then (some false) else (some true)))))
end Go.Ln
