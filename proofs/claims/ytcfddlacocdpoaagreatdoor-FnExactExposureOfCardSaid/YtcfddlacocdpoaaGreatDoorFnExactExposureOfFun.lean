/-
  What each function computes.
-/
import Derived.Test.YtcfddlacocdpoaaGreatDoorFnExactExposureOfLnC
set_option maxHeartbeats 4000000
set_option linter.unusedVariables false
set_option linter.unusedSimpArgs false
set_option maxRecDepth 100000
namespace Go.Ln
open Go
noncomputable section
structure Condition where
 Op:Int
 Name:ac
 Day:Int
 Parts:List Condition
mutual
def aE:Condition→V
 | ⟨a0,a1,a2,a3⟩=>.agg [I a0,str a1,I a2,.isl false (dJ a3)]
def dJ:List Condition→List V
 | []=>[]
 | x::xs=>aE x::dJ xs
end
theorem o8:∀xs,dJ xs=xs.map aE
 | []=>by simp[dJ]
 | x::xs=>by simp[dJ,o8 xs]
def bF (x:Condition):V:=.agg [I x.Op,str x.Name,I x.Day,.isl false (x.Parts.map aE)]
abbrev ao (x:Condition):V:=.agg [I x.Op,str x.Name,I x.Day,.isl false (x.Parts.map aE)]
theorem dA (x:Condition):aE x=bF x:=by cases x;simp only[aE,bF,o8]
mutual
theorem fC:∀(a b:Condition),aE a=aE b→a=b
 | ⟨a0,a1,a2,a3⟩,⟨b0,b1,b2,b3⟩,h=>by
  simp only[aE] at h
  have k0:=V.agg.inj h
  obtain⟨h0,k1⟩:=List.cons.inj k0
  obtain rfl:=bo a0 b0 h0
  obtain⟨h1,k2⟩:=List.cons.inj k1
  obtain rfl:=bT a1 b1 h1
  obtain⟨h2,k3⟩:=List.cons.inj k2
  obtain rfl:=bo a2 b2 h2
  obtain⟨h3,k4⟩:=List.cons.inj k3
  have e3:dJ a3=dJ b3:=by simpa using h3
  obtain rfl:=o7 a3 b3 e3
  rfl
theorem o7:∀(a b:List Condition),dJ a=dJ b→a=b
 | [],[],_=>rfl
 | [],_::_,h=>by simp[dJ] at h
 | _::_,[],h=>by simp[dJ] at h
 | x::xs,y::ys,h=>by
  simp only[dJ,List.cons.injEq] at h
  rw[fC x y h.1,o7 xs ys h.2]
end
theorem dC (a b:Condition)(h:bF a=bF b):a=b:=fC a b (by rw[dA,dA,h])
mutual
def aC:Condition→V
 | ⟨a0,a1,a2,a3⟩=>.agg [I a0,str a1,I a2,.usl 4 (cT a3)]
def cT:List Condition→List V
 | []=>[]
 | x::xs=>aC x::cT xs
end
theorem pb:∀xs,cT xs=xs.map aC
 | []=>by simp[cT]
 | x::xs=>by simp[cT,pb xs]
def su (x:Condition):V:=.agg [I x.Op,str x.Name,I x.Day,.usl 4 (x.Parts.map aC)]
abbrev qr (x:Condition):V:=.agg [I x.Op,str x.Name,I x.Day,.usl 4 (x.Parts.map aC)]
theorem mF (x:Condition):aC x=su x:=by cases x;simp only[aC,su,pb]
mutual
theorem xO:∀(a b:Condition),aC a=aC b→a=b
 | ⟨a0,a1,a2,a3⟩,⟨b0,b1,b2,b3⟩,h=>by
  simp only[aC] at h
  have k0:=V.agg.inj h
  obtain⟨h0,k1⟩:=List.cons.inj k0
  obtain rfl:=bo a0 b0 h0
  obtain⟨h1,k2⟩:=List.cons.inj k1
  obtain rfl:=bT a1 b1 h1
  obtain⟨h2,k3⟩:=List.cons.inj k2
  obtain rfl:=bo a2 b2 h2
  obtain⟨h3,k4⟩:=List.cons.inj k3
  have e3:cT a3=cT b3:=by simpa using h3
  obtain rfl:=pa a3 b3 e3
  rfl
theorem pa:∀(a b:List Condition),cT a=cT b→a=b
 | [],[],_=>rfl
 | [],_::_,h=>by simp[cT] at h
 | _::_,[],h=>by simp[cT] at h
 | x::xs,y::ys,h=>by
  simp only[cT,List.cons.injEq] at h
  rw[xO x y h.1,pa xs ys h.2]
end
mutual
theorem qc:∀x:Condition,eC (aC x)=aE x
 | ⟨a0,a1,a2,a3⟩=>by simp[aC,aE,eC,fM,str,o9]
theorem o9:∀xs:List Condition,fM (cT xs)=dJ xs
 | []=>by simp[cT,dJ,fM]
 | x::xs=>by simp[cT,dJ,fM,qc x,o9 xs]
end
mutual
theorem wu:∀x:Condition,cX (aC x)=false
 | ⟨a0,a1,a2,a3⟩=>by simp[aC,cX,dM,str,oE]
theorem oE:∀xs:List Condition,dM (cT xs)=false
 | []=>by simp[cT,dM]
 | x::xs=>by simp[cT,dM,wu x,oE xs]
end
structure Clause where
 Id:ac
 Kind:Int
 Party:Int
 Action:ac
 Other:Int
 Amount:Int
 When:Condition
 Within:Int
 Repair:ac
def ap (x:Clause):V:=.agg [str x.Id,I x.Kind,I x.Party,str x.Action,I x.Other,I x.Amount,I x.When.Op,str x.When.Name,I x.When.Day,.isl false (x.When.Parts.map aE),I x.Within,str x.Repair]
abbrev au (x:Clause):V:=.agg [str x.Id,I x.Kind,I x.Party,str x.Action,I x.Other,I x.Amount,I x.When.Op,str x.When.Name,I x.When.Day,.isl false (x.When.Parts.map aE),I x.Within,str x.Repair]
theorem dI (a b:Clause)(h:ap a=ap b):a=b:=by
 obtain⟨p0,p1,p2,p3,p4,p5,⟨p6,p7,p8,p9⟩,p10,p11⟩:=a
 obtain⟨q0,q1,q2,q3,q4,q5,⟨q6,q7,q8,q9⟩,q10,q11⟩:=b
 replace h:=V.agg.inj h
 obtain⟨h0,h⟩:=List.cons.inj h
 obtain rfl:=bT p0 q0 h0
 obtain⟨h1,h⟩:=List.cons.inj h
 obtain rfl:=bo p1 q1 h1
 obtain⟨h2,h⟩:=List.cons.inj h
 obtain rfl:=bo p2 q2 h2
 obtain⟨h3,h⟩:=List.cons.inj h
 obtain rfl:=bT p3 q3 h3
 obtain⟨h4,h⟩:=List.cons.inj h
 obtain rfl:=bo p4 q4 h4
 obtain⟨h5,h⟩:=List.cons.inj h
 obtain rfl:=bo p5 q5 h5
 obtain⟨h6,h⟩:=List.cons.inj h
 obtain rfl:=bo p6 q6 h6
 obtain⟨h7,h⟩:=List.cons.inj h
 obtain rfl:=bT p7 q7 h7
 obtain⟨h8,h⟩:=List.cons.inj h
 obtain rfl:=bo p8 q8 h8
 obtain⟨h9,h⟩:=List.cons.inj h
 obtain rfl:=(bW fC) p9 q9 h9
 obtain⟨h10,h⟩:=List.cons.inj h
 obtain rfl:=bo p10 q10 h10
 obtain⟨h11,h⟩:=List.cons.inj h
 obtain rfl:=bT p11 q11 h11
 rfl
def bb (x:Clause):V:=.agg [str x.Id,I x.Kind,I x.Party,str x.Action,I x.Other,I x.Amount,I x.When.Op,str x.When.Name,I x.When.Day,.usl 4 (x.When.Parts.map aC),I x.Within,str x.Repair]
abbrev uU (x:Clause):V:=.agg [str x.Id,I x.Kind,I x.Party,str x.Action,I x.Other,I x.Amount,I x.When.Op,str x.When.Name,I x.When.Day,.usl 4 (x.When.Parts.map aC),I x.Within,str x.Repair]
theorem gl (x:Clause):eC (bb x)=ap x:=aeL (kL rfl (kL rfl (kL rfl (kL rfl (kL rfl (kL rfl (kL rfl (kL rfl (kL rfl (kL (ZN (co qc)) (kL rfl (kL rfl rfl))))))))))))
structure Contract where
 Parties:List ac
 Clauses:List Clause
def aM (x:Contract):V:=.agg [.isl false (x.Parties.map str),.isl false (x.Clauses.map ap)]
abbrev aa (x:Contract):V:=.agg [.isl false (x.Parties.map str),.isl false (x.Clauses.map ap)]
theorem aU (a b:Contract)(h:aM a=aM b):a=b:=by
 obtain⟨p0,p1⟩:=a
 obtain⟨q0,q1⟩:=b
 replace h:=V.agg.inj h
 obtain⟨h0,h⟩:=List.cons.inj h
 obtain rfl:=(bW bT) p0 q0 h0
 obtain⟨h1,h⟩:=List.cons.inj h
 obtain rfl:=(bW dI) p1 q1 h1
 rfl
structure Duty where
 Clause:Int
 Since:Int
 Due:Int
 Status:Int
def ah (x:Duty):V:=.agg [I x.Clause,I x.Since,I x.Due,I x.Status]
abbrev ad0 (x:Duty):V:=.agg [I x.Clause,I x.Since,I x.Due,I x.Status]
theorem IG (x:Duty):(cells (ah x)).length=4∧(cells (ah x)).all fm=true:=⟨rfl,rfl⟩
theorem iO (x:Duty):eC (ah x)=ah x:=rfl
theorem ey (a b:Duty)(h:ah a=ah b):a=b:=by
 obtain⟨p0,p1,p2,p3⟩:=a
 obtain⟨q0,q1,q2,q3⟩:=b
 replace h:=V.agg.inj h
 obtain⟨h0,h⟩:=List.cons.inj h
 obtain rfl:=bo p0 q0 h0
 obtain⟨h1,h⟩:=List.cons.inj h
 obtain rfl:=bo p1 q1 h1
 obtain⟨h2,h⟩:=List.cons.inj h
 obtain rfl:=bo p2 q2 h2
 obtain⟨h3,h⟩:=List.cons.inj h
 obtain rfl:=bo p3 q3 h3
 rfl
structure State where
 Day:Int
 Facts:List ac
 Duties:List Duty
 Balances:List Int
 Over:Bool
def bH (x:State):V:=.agg [I x.Day,.isl false (x.Facts.map str),.isl false (x.Duties.map ah),.isl false (x.Balances.map I),B x.Over]
abbrev ae (x:State):V:=.agg [I x.Day,.isl false (x.Facts.map str),.isl false (x.Duties.map ah),.isl false (x.Balances.map I),B x.Over]
theorem bP (a b:State)(h:bH a=bH b):a=b:=by
 obtain⟨p0,p1,p2,p3,p4⟩:=a
 obtain⟨q0,q1,q2,q3,q4⟩:=b
 replace h:=V.agg.inj h
 obtain⟨h0,h⟩:=List.cons.inj h
 obtain rfl:=bo p0 q0 h0
 obtain⟨h1,h⟩:=List.cons.inj h
 obtain rfl:=(bW bT) p1 q1 h1
 obtain⟨h2,h⟩:=List.cons.inj h
 obtain rfl:=(bW ey) p2 q2 h2
 obtain⟨h3,h⟩:=List.cons.inj h
 obtain rfl:=(bW bo) p3 q3 h3
 obtain⟨h4,h⟩:=List.cons.inj h
 obtain rfl:=ad1 p4 q4 h4
 rfl
mutual
def pe:Condition→Prop
 | ⟨a0,a1,a2,a3⟩=>nU a0∧Hp a1∧nU a2∧(a3.length≤maxLen∧Lv a3)
def Lv:List Condition→Prop
 | []=>True
 | x::xs=>pe x∧Lv xs
end
theorem Lw:∀xs,Lv xs↔∀x∈xs,pe x
 | []=>by simp[Lv]
 | x::xs=>by simp[Lv,Lw xs]
theorem Lu (x:Condition):pe x↔nU x.Op∧Hp x.Name∧nU x.Day∧sE pe x.Parts:=by cases x;simp only[pe,Lw,sE]
def sF (x:Clause):Prop:=Hp x.Id∧nU x.Kind∧nU x.Party∧Hp x.Action∧nU x.Other∧nU x.Amount∧pe x.When∧nU x.Within∧Hp x.Repair
def WY (x:Contract):Prop:=(sE Hp) x.Parties∧(sE sF) x.Clauses
def IQ (x:Duty):Prop:=nU x.Clause∧nU x.Since∧nU x.Due∧nU x.Status
def C2 (x:State):Prop:=nU x.Day∧(sE Hp) x.Facts∧(sE IQ) x.Duties∧(sE nU) x.Balances∧okB x.Over
def nt (a_1:List ac)(aw:Int)(self:(Int×Int)→Option (Int⊕Int))(x3:Int×Int):Option (Int⊕Int):=
 bif (decide (x3.2<(len a_1))) then ((aG a_1 x3.2).bind fun e4=>bif (decide ((ai (x3.1 - (len e4)))<0)) then (some (.inl (-1))) else (self ((ai (x3.1 - (len e4))),(ai (x3.2+1))))) else (some (.inr x3.1))
def tz (a_1:List ac)(aw:Int): (Int×Int)→Option (Int⊕Int):=aL (nt a_1 aw)
theorem zj (a_1:List ac)(aw:Int): ∀a,Fin1 fun f=>nt a_1 aw f a:=by
 unfold nt
 repeat first|intro _|exact aY|exact bx|apply bC|apply bg|apply bh|apply bp|apply bD
theorem PW (a_1:List ac)(aw:Int)(x:Int×Int):tz a_1 aw x=nt a_1 aw (tz a_1 aw) x:=bI (zj a_1 aw) x
def wG (a_1:List ac)(aw:Int):Option Int:=
 bif (decide ((ai (aw - (len a_1)))<0)) then (some (-1)) else (be (ρ:=Int) (tz a_1 aw ((ai (aw - (len a_1))),0)) fun u5:Int=>some u5)
def ls (bv:(Condition×Int)→Option Int)(a_1:List Condition)(aw:Int)(self:(Int×Int)→Option (Int⊕Int))(x3:Int×Int):Option (Int⊕Int):=
 bif (decide (x3.2<(len a_1))) then ((aG a_1 x3.2).bind fun e4=>(bv (e4,x3.1)).bind fun r5=>bif (decide (r5<0)) then (some (.inl (-1))) else (self (r5,(ai (x3.2+1))))) else (some (.inr x3.1))
def qU (bv:(Condition×Int)→Option Int)(a_1:List Condition)(aw:Int): (Int×Int)→Option (Int⊕Int):=aL (ls bv a_1 aw)
theorem zi (bv:(Condition×Int)→Option Int)(a_1:List Condition)(aw:Int): ∀a,Fin1 fun f=>ls bv a_1 aw f a:=by
 unfold ls
 repeat first|intro _|exact aY|exact bx|apply bC|apply bg|apply bh|apply bp|apply bD
theorem PV (bv:(Condition×Int)→Option Int)(a_1:List Condition)(aw:Int)(x:Int×Int):qU bv a_1 aw x=ls bv a_1 aw (qU bv a_1 aw) x:=bI (zi bv a_1 aw) x
def wF (bv:(Condition×Int)→Option Int)(a_1:List Condition)(aw:Int):Option Int:=
 bif (decide ((ai (aw - (len a_1)))<0)) then (some (-1)) else (be (ρ:=Int) (qU bv a_1 aw ((ai (aw - (len a_1))),0)) fun u6:Int=>some u6)
def tx (bv:(Condition×Int)→Option Int)(a_1:Condition)(aw:Int):Option Int:=
 bif (decide ((ai (aw - (len a_1.Name)))<0)) then (some (-1)) else ((wF bv a_1.Parts (ai (aw - (len a_1.Name)))).bind fun r3=>bif (decide (r3<0)) then (some (-1)) else (some r3))
def pV (bv:(Condition×Int)→Option Int)(x:Condition×Int):Option Int:=tx bv x.1 x.2
def wC (a_1:Condition)(aw:Int):Option Int:=aL pV (a_1,aw)
theorem WE:∀x,Fin1 fun bv=>pV bv x:=by
 unfold pV tx
 repeat first|intro _|exact aY|exact bx|exact jS|exact mp|exact iQ|exact kt|exact jl|exact jm|apply bC|apply bg|apply bh|apply bp|apply bD|apply qG|unfold wF|unfold qU|unfold ls
theorem ZX (a_1:Condition)(aw:Int):wC a_1 aw=tx (aL pV) a_1 aw:=bI WE (a_1,aw)
def uY (a_1:Clause)(aw:Int):Option Int:=
 bif (decide ((ai (aw - (len a_1.Id)))<0)) then (some (-1)) else (bif (decide ((ai ((ai (aw - (len a_1.Id))) - (len a_1.Action)))<0)) then (some (-1)) else ((wC a_1.When (ai ((ai (aw - (len a_1.Id))) - (len a_1.Action)))).bind fun r3=>bif (decide (r3<0)) then (some (-1)) else (bif (decide ((ai (r3 - (len a_1.Repair)))<0)) then (some (-1)) else (some (ai (r3 - (len a_1.Repair)))))))
def nr (a_1:List Clause)(aw:Int)(self:(Int×Int)→Option (Int⊕Int))(x3:Int×Int):Option (Int⊕Int):=
 bif (decide (x3.2<(len a_1))) then ((aG a_1 x3.2).bind fun e4=>(uY e4 x3.1).bind fun r5=>bif (decide (r5<0)) then (some (.inl (-1))) else (self (r5,(ai (x3.2+1))))) else (some (.inr x3.1))
def tw (a_1:List Clause)(aw:Int): (Int×Int)→Option (Int⊕Int):=aL (nr a_1 aw)
theorem zh (a_1:List Clause)(aw:Int): ∀a,Fin1 fun f=>nr a_1 aw f a:=by
 unfold nr
 repeat first|intro _|exact aY|exact bx|apply bC|apply bg|apply bh|apply bp|apply bD
theorem PU (a_1:List Clause)(aw:Int)(x:Int×Int):tw a_1 aw x=nr a_1 aw (tw a_1 aw) x:=bI (zh a_1 aw) x
def Bl (a_1:List Clause)(aw:Int):Option Int:=
 bif (decide ((ai (aw - (len a_1)))<0)) then (some (-1)) else (be (ρ:=Int) (tw a_1 aw ((ai (aw - (len a_1))),0)) fun u6:Int=>some u6)
def Bp (a_1:Contract)(aw:Int):Option Int:=
 (wG a_1.Parties aw).bind fun r3=>bif (decide (r3<0)) then (some (-1)) else ((Bl a_1.Clauses r3).bind fun r4=>bif (decide (r4<0)) then (some (-1)) else (some r4))
def Br (a_1:List Duty)(aw:Int):Option Int:=
 bif (decide ((ai (aw - (len a_1)))<0)) then (some (-1)) else (some (ai (aw - (len a_1))))
def Bt (a_1:List Int)(aw:Int):Option Int:=
 bif (decide ((ai (aw - (len a_1)))<0)) then (some (-1)) else (some (ai (aw - (len a_1))))
def Bv (a_1:State)(aw:Int):Option Int:=
 (wG a_1.Facts aw).bind fun r3=>bif (decide (r3<0)) then (some (-1)) else ((Br a_1.Duties r3).bind fun r4=>bif (decide (r4<0)) then (some (-1)) else ((Bt a_1.Balances r4).bind fun r5=>bif (decide (r5<0)) then (some (-1)) else (some r5)))
def nA (a_1:List ac)(self:(Int×(List ac))→Option ((List ac)⊕(List ac)))(x3:Int×(List ac)):Option ((List ac)⊕(List ac)):=
 bif (decide (x3.1<(len a_1))) then ((aG a_1 x3.1).bind fun e4=>(aG x3.2 x3.1).bind fun e5=>self ((ai (x3.1+1)),(dj x3.2 x3.1 e4))) else (some (.inr x3.2))
def tE (a_1:List ac): (Int×(List ac))→Option ((List ac)⊕(List ac)):=aL (nA a_1)
theorem zo (a_1:List ac): ∀a,Fin1 fun f=>nA a_1 f a:=by
 unfold nA
 repeat first|intro _|exact aY|exact bx|apply bC|apply bg|apply bh|apply bp|apply bD
theorem P1 (a_1:List ac)(x:Int×(List ac)):tE a_1 x=nA a_1 (tE a_1) x:=bI (zo a_1) x
def wP (a_1:List ac):Option (List ac):=
 (sB 16 [] (len a_1)).bind fun m2=>be (ρ:=(List ac)) (tE a_1 (0,m2)) fun u6:(List ac)=>some u6
def lu (bw:Condition→Option Condition)(a_1:List Condition)(self:(Int×(List Condition))→Option ((List Condition)⊕(List Condition)))(x3:Int×(List Condition)):Option ((List Condition)⊕(List Condition)):=
 bif (decide (x3.1<(len a_1))) then ((aG a_1 x3.1).bind fun e4=>(bw e4).bind fun r5=>(aG x3.2 x3.1).bind fun e6=>self ((ai (x3.1+1)),(dj x3.2 x3.1 r5))) else (some (.inr x3.2))
def qV (bw:Condition→Option Condition)(a_1:List Condition): (Int×(List Condition))→Option ((List Condition)⊕(List Condition)):=aL (lu bw a_1)
theorem zl (bw:Condition→Option Condition)(a_1:List Condition): ∀a,Fin1 fun f=>lu bw a_1 f a:=by
 unfold lu
 repeat first|intro _|exact aY|exact bx|apply bC|apply bg|apply bh|apply bp|apply bD
theorem PY (bw:Condition→Option Condition)(a_1:List Condition)(x:Int×(List Condition)):qV bw a_1 x=lu bw a_1 (qV bw a_1) x:=bI (zl bw a_1) x
def wL (bw:Condition→Option Condition)(a_1:List Condition):Option (List Condition):=
 (sB 56 (Condition.mk 0 [] 0 []) (len a_1)).bind fun m2=>be (ρ:=(List Condition)) (qV bw a_1 (0,m2)) fun u7:(List Condition)=>some u7
def tB (bw:Condition→Option Condition)(a_1:Condition):Option Condition:=
 (wL bw a_1.Parts).bind fun r2=>some (Condition.mk a_1.Op a_1.Name a_1.Day r2)
def pW (bw:Condition→Option Condition)(x:Condition):Option Condition:=tB bw x
def BB (a_1:Condition):Option Condition:=aL pW a_1
theorem WP:∀x,Fin1 fun bw=>pW bw x:=by
 unfold pW tB
 repeat first|intro _|exact aY|exact bx|exact jS|exact mp|exact iQ|exact kt|exact jl|exact jm|apply bC|apply bg|apply bh|apply bp|apply bD|apply qG|unfold wL|unfold qV|unfold lu
theorem ZZ (a_1:Condition):BB a_1=tB (aL pW) a_1:=bI WP a_1
def wI (a_1:Clause):Option Clause:=
 (BB a_1.When).bind fun r2=>some (Clause.mk a_1.Id a_1.Kind a_1.Party a_1.Action a_1.Other a_1.Amount r2 a_1.Within a_1.Repair)
def nu (a_1:List Clause)(self:(Int×(List Clause))→Option ((List Clause)⊕(List Clause)))(x3:Int×(List Clause)):Option ((List Clause)⊕(List Clause)):=
 bif (decide (x3.1<(len a_1))) then ((aG a_1 x3.1).bind fun e4=>(wI e4).bind fun r5=>(aG x3.2 x3.1).bind fun e6=>self ((ai (x3.1+1)),(dj x3.2 x3.1 r5))) else (some (.inr x3.2))
def tA (a_1:List Clause): (Int×(List Clause))→Option ((List Clause)⊕(List Clause)):=aL (nu a_1)
theorem zk (a_1:List Clause): ∀a,Fin1 fun f=>nu a_1 f a:=by
 unfold nu
 repeat first|intro _|exact aY|exact bx|apply bC|apply bg|apply bh|apply bp|apply bD
theorem PX (a_1:List Clause)(x:Int×(List Clause)):tA a_1 x=nu a_1 (tA a_1) x:=bI (zk a_1) x
def Bz (a_1:List Clause):Option (List Clause):=
 (sB 144 (Clause.mk [] 0 0 [] 0 0 (Condition.mk 0 [] 0 []) 0 []) (len a_1)).bind fun m2=>be (ρ:=(List Clause)) (tA a_1 (0,m2)) fun u7:(List Clause)=>some u7
def va (a_1:Contract):Option Contract:=
 (wP a_1.Parties).bind fun r2=>(Bz a_1.Clauses).bind fun r3=>some (Contract.mk r2 r3)
def wN (a_1:Duty):Option Duty:=
 some a_1
def ny (a_1:List Duty)(self:(Int×(List Duty))→Option ((List Duty)⊕(List Duty)))(x3:Int×(List Duty)):Option ((List Duty)⊕(List Duty)):=
 bif (decide (x3.1<(len a_1))) then ((aG a_1 x3.1).bind fun e4=>(wN e4).bind fun r5=>(aG x3.2 x3.1).bind fun e6=>self ((ai (x3.1+1)),(dj x3.2 x3.1 r5))) else (some (.inr x3.2))
def tC (a_1:List Duty): (Int×(List Duty))→Option ((List Duty)⊕(List Duty)):=aL (ny a_1)
theorem zm (a_1:List Duty): ∀a,Fin1 fun f=>ny a_1 f a:=by
 unfold ny
 repeat first|intro _|exact aY|exact bx|apply bC|apply bg|apply bh|apply bp|apply bD
theorem PZ (a_1:List Duty)(x:Int×(List Duty)):tC a_1 x=ny a_1 (tC a_1) x:=bI (zm a_1) x
def BG (a_1:List Duty):Option (List Duty):=
 (sB 32 (Duty.mk 0 0 0 0) (len a_1)).bind fun m2=>be (ρ:=(List Duty)) (tC a_1 (0,m2)) fun u7:(List Duty)=>some u7
def nz (a_1:List Int)(self:(Int×(List Int))→Option ((List Int)⊕(List Int)))(x3:Int×(List Int)):Option ((List Int)⊕(List Int)):=
 bif (decide (x3.1<(len a_1))) then ((aG a_1 x3.1).bind fun e4=>(aG x3.2 x3.1).bind fun e5=>self ((ai (x3.1+1)),(dj x3.2 x3.1 e4))) else (some (.inr x3.2))
def tD (a_1:List Int): (Int×(List Int))→Option ((List Int)⊕(List Int)):=aL (nz a_1)
theorem zn (a_1:List Int): ∀a,Fin1 fun f=>nz a_1 f a:=by
 unfold nz
 repeat first|intro _|exact aY|exact bx|apply bC|apply bg|apply bh|apply bp|apply bD
theorem P0 (a_1:List Int)(x:Int×(List Int)):tD a_1 x=nz a_1 (tD a_1) x:=bI (zn a_1) x
def BI (a_1:List Int):Option (List Int):=
 (sB 8 0 (len a_1)).bind fun m2=>be (ρ:=(List Int)) (tD a_1 (0,m2)) fun u6:(List Int)=>some u6
def vb (a_1:State):Option State:=
 (wP a_1.Facts).bind fun r2=>(BG a_1.Duties).bind fun r3=>(BI a_1.Balances).bind fun r4=>some (State.mk a_1.Day r2 r3 r4 a_1.Over)
def eq (x_1:Int)(a_2:Int)(b_3:Int):Option Bool:=
 cm (bif (decide (x_1≥a_2)) then (decide (x_1≤b_3)) else false) fun u4:Bool=>some u4
def xl (b_1:Int):Option Bool:=
 cm (bif (decide (b_1≥97)) then (cm (bif (decide (b_1≤122)) then true else (cm (bif (decide (b_1≥48)) then (decide (b_1≤57)) else false) fun u4:Bool=>u4)) fun u3:Bool=>u3) else (cm (bif (decide (b_1≥48)) then (decide (b_1≤57)) else false) fun u5:Bool=>u5)) fun u2:Bool=>some u2
def nM (s_1:ac)(self:Int→Option (Bool⊕Unit))(x4:Int):Option (Bool⊕Unit):=
 bif (decide (x4<(len s_1))) then ((aG s_1 x4).bind fun c5=>(xl (c5.toNat:Int)).bind fun r6=>bif (!r6) then (some (.inl false)) else (self (ai (x4+1)))) else (some (.inr ()))
def tW (s_1:ac): Int→Option (Bool⊕Unit):=aL (nM s_1)
theorem zT (s_1:ac): ∀a,Fin1 fun f=>nM s_1 f a:=by
 unfold nM
 repeat first|intro _|exact aY|exact bx|apply bC|apply bg|apply bh|apply bp|apply bD
theorem Qd (s_1:ac)(x:Int):tW s_1 x=nM s_1 (tW s_1) x:=bI (zT s_1) x
def ro (s_1:ac):Option Bool:=
 (eq (len s_1) 1 8).bind fun r2=>be (ρ:=Bool) (bif (!r2) then (some (.inr true)) else ((aG s_1 0).bind fun c16=>cg (ρ:=Bool) (bif (decide ((c16.toNat:Int)<97)) then (some (.inr true)) else ((aG s_1 0).bind fun c18=>some (.inr (decide ((c18.toNat:Int)>122))))) fun u17:Bool=>some (.inr u17))) fun u3:Bool=>bif u3 then (some false) else (be (ρ:=Bool) (tW s_1 0) fun u7:Unit=>cm (bif (s_1==([116,114,117,101]:ac)) then (s_1==([116,114,117,101]:ac)) else (cm (bif (s_1==([102,114,111,109]:ac)) then (s_1==([102,114,111,109]:ac)) else (cm (bif (s_1==([110,111,116]:ac)) then (s_1==([110,111,116]:ac)) else (cm (bif (s_1==([97,110,100]:ac)) then (s_1==([97,110,100]:ac)) else (cm (bif (s_1==([111,114]:ac)) then (s_1==([111,114]:ac)) else (cm (bif (s_1==([98,111,116,104]:ac)) then (s_1==([98,111,116,104]:ac)) else (cm (bif (s_1==([101,105,116,104,101,114]:ac)) then (s_1==([101,105,116,104,101,114]:ac)) else (cm (bif (s_1==([105,116]:ac)) then (s_1==([105,116]:ac)) else (s_1==([105,110]:ac))) fun u15:Bool=>u15)) fun u14:Bool=>u14)) fun u13:Bool=>u13)) fun u12:Bool=>u12)) fun u11:Bool=>u11)) fun u10:Bool=>u10)) fun u9:Bool=>u9)) fun u8:Bool=>bif u8 then (some false) else (some true))
def nJ (ay:List ac)(eZ:ac)(self:Int→Option (Bool⊕Unit))(x3:Int):Option (Bool⊕Unit):=
 bif (decide (x3<(len ay))) then ((aG ay x3).bind fun e4=>bif (e4==eZ) then (some (.inl true)) else (self (ai (x3+1)))) else (some (.inr ()))
def tV (ay:List ac)(eZ:ac): Int→Option (Bool⊕Unit):=aL (nJ ay eZ)
theorem zS (ay:List ac)(eZ:ac): ∀a,Fin1 fun f=>nJ ay eZ f a:=by
 unfold nJ
 repeat first|intro _|exact aY|exact bx|apply bC|apply bg|apply bh|apply bp|apply bD
theorem Qc (ay:List ac)(eZ:ac)(x:Int):tV ay eZ x=nJ ay eZ (tV ay eZ) x:=bI (zS ay eZ) x
def vl (ay:List ac)(eZ:ac):Option Bool:=
 be (ρ:=Bool) (tV ay eZ 0) fun u5:Unit=>some false
def lL (c_1:Contract)(self:Int→Option (Bool⊕Unit))(x2:Int):Option (Bool⊕Unit):=
 bif (decide (x2<(len c_1.Parties))) then ((aG c_1.Parties x2).bind fun e3=>(ro e3).bind fun r4=>cg (ρ:=Bool) (bif (!r4) then (some (.inr true)) else ((lf c_1.Parties 0 x2).bind fun s6=>(aG c_1.Parties x2).bind fun e7=>(vl s6 e7).bind fun r8=>some (.inr r8))) fun u5:Bool=>bif u5 then (some (.inl false)) else (self (ai (x2+1)))) else (some (.inr ()))
def ui (c_1:Contract): Int→Option (Bool⊕Unit):=aL (lL c_1)
theorem Ab (c_1:Contract): ∀a,Fin1 fun f=>lL c_1 f a:=by
 unfold lL
 repeat first|intro _|exact aY|exact bx|apply bC|apply bg|apply bh|apply bp|apply bD
theorem Gc (c_1:Contract)(x:Int):ui c_1 x=lL c_1 (ui c_1) x:=bI (Ab c_1) x
def xt (c_1:Contract):Option Bool:=
 be (ρ:=Bool) (ui c_1 0) fun u9:Unit=>(eq (len c_1.Parties) 2 4).bind fun r10=>some r10
def nP (c_1:Contract)(fj:ac)(self:Int→Option (Int⊕Unit))(x3:Int):Option (Int⊕Unit):=
 bif (decide (x3<(len c_1.Clauses))) then ((aG c_1.Clauses x3).bind fun e4=>bif (e4.Id==fj) then (some (.inl x3)) else (self (ai (x3+1)))) else (some (.inr ()))
def ug (c_1:Contract)(fj:ac): Int→Option (Int⊕Unit):=aL (nP c_1 fj)
theorem zY (c_1:Contract)(fj:ac): ∀a,Fin1 fun f=>nP c_1 fj f a:=by
 unfold nP
 repeat first|intro _|exact aY|exact bx|apply bC|apply bg|apply bh|apply bp|apply bD
theorem Qf (c_1:Contract)(fj:ac)(x:Int):ug c_1 fj x=nP c_1 fj (ug c_1 fj) x:=bI (zY c_1 fj) x
def vo (c_1:Contract)(fj:ac):Option Int:=
 be (ρ:=Int) (ug c_1 fj 0) fun u5:Unit=>some (-1)
def rl (gZ:Int):Option Bool:=
 (eq gZ 0 36524).bind fun r2=>some r2
def Cn (c_1:Condition):Option Bool:=
 bif (c_1.Op==1) then (cm (bif ((len c_1.Parts)==0) then (cm (bif (c_1.Name==([]:ac)) then (c_1.Day==0) else false) fun u3:Bool=>u3) else false) fun u2:Bool=>some u2) else (bif (c_1.Op==2) then (be (ρ:=Bool) (bif ((len c_1.Parts)==0) then ((ro c_1.Name).bind fun r5=>cm (bif r5 then (c_1.Day==0) else false) fun u6:Bool=>some (.inr u6)) else (some (.inr false))) fun u4:Bool=>some u4) else (bif (c_1.Op==3) then (be (ρ:=Bool) (bif ((len c_1.Parts)==0) then (cg (ρ:=Bool) (bif (c_1.Name==([]:ac)) then ((rl c_1.Day).bind fun r9=>some (.inr r9)) else (some (.inr false))) fun u8:Bool=>some (.inr u8)) else (some (.inr false))) fun u7:Bool=>some u7) else (bif (c_1.Op==4) then (cm (bif ((len c_1.Parts)==1) then (cm (bif (c_1.Name==([]:ac)) then (c_1.Day==0) else false) fun u11:Bool=>u11) else false) fun u10:Bool=>some u10) else (cm (bif (c_1.Op==5) then (c_1.Op==5) else (c_1.Op==6)) fun u12:Bool=>bif u12 then (cm (bif ((len c_1.Parts)==2) then (cm (bif (c_1.Name==([]:ac)) then (c_1.Day==0) else false) fun u14:Bool=>u14) else false) fun u13:Bool=>some u13) else (some false)))))
def lE (cy:Condition→Option Bool)(c_1:Condition)(self:Int→Option (Bool⊕Unit))(x3:Int):Option (Bool⊕Unit):=
 bif (decide (x3<(len c_1.Parts))) then ((aG c_1.Parts x3).bind fun e4=>(cy e4).bind fun r5=>bif (!r5) then (some (.inl false)) else (self (ai (x3+1)))) else (some (.inr ()))
def rc (cy:Condition→Option Bool)(c_1:Condition): Int→Option (Bool⊕Unit):=aL (lE cy c_1)
theorem zR (cy:Condition→Option Bool)(c_1:Condition): ∀a,Fin1 fun f=>lE cy c_1 f a:=by
 unfold lE
 repeat first|intro _|exact aY|exact bx|apply bC|apply bg|apply bh|apply bp|apply bD
theorem Qb (cy:Condition→Option Bool)(c_1:Condition)(x:Int):rc cy c_1 x=lE cy c_1 (rc cy c_1) x:=bI (zR cy c_1) x
def tU (cy:Condition→Option Bool)(c_1:Condition):Option Bool:=
 (Cn c_1).bind fun r2=>bif (!r2) then (some false) else (be (ρ:=Bool) (rc cy c_1 0) fun u6:Unit=>some true)
def rn (cy:Condition→Option Bool)(x:Condition):Option Bool:=tU cy x
def H9 (c_1:Condition):Option Bool:=aL rn c_1
theorem Xw:∀x,Fin1 fun cy=>rn cy x:=by
 unfold rn tU
 repeat first|intro _|exact aY|exact bx|exact jS|exact mp|exact iQ|exact kt|exact jl|exact jm|apply bC|apply bg|apply bh|apply bp|apply bD|apply qG|unfold rc|unfold lE
theorem Z5 (c_1:Condition):H9 c_1=tU (aL rn) c_1:=bI Xw c_1
def kg (cB:Condition→Option Int)(c_1:Condition)(self:(Int×Int)→Option (Int⊕Int))(x2:Int×Int):Option (Int⊕Int):=
 bif (decide (x2.2<(len c_1.Parts))) then ((aG c_1.Parts x2.2).bind fun e3=>(cB e3).bind fun r4=>self ((ai (x2.1+r4)),(ai (x2.2+1)))) else (some (.inr x2.1))
def mg (cB:Condition→Option Int)(c_1:Condition): (Int×Int)→Option (Int⊕Int):=aL (kg cB c_1)
theorem zW (cB:Condition→Option Int)(c_1:Condition): ∀a,Fin1 fun f=>kg cB c_1 f a:=by
 unfold kg
 repeat first|intro _|exact aY|exact bx|apply bC|apply bg|apply bh|apply bp|apply bD
theorem FV (cB:Condition→Option Int)(c_1:Condition)(x:Int×Int):mg cB c_1 x=kg cB c_1 (mg cB c_1) x:=bI (zW cB c_1) x
def ub (cB:Condition→Option Int)(c_1:Condition):Option Int:=
 be (ρ:=Int) (mg cB c_1 (1,0)) fun u5:Int=>some u5
def lH (cB:Condition→Option Int)(x:Condition):Option Int:=ub cB x
def L1 (c_1:Condition):Option Int:=aL lH c_1
theorem XG:∀x,Fin1 fun cB=>lH cB x:=by
 unfold lH ub
 repeat first|intro _|exact aY|exact bx|exact jS|exact mp|exact iQ|exact kt|exact jl|exact jm|apply bC|apply bg|apply bh|apply bp|apply bD|apply qG|unfold mg|unfold kg
theorem Z8 (c_1:Condition):L1 c_1=ub (aL lH) c_1:=bI XG c_1
def Cq (c_1:Condition):Option Bool:=
 (H9 c_1).bind fun r2=>be (ρ:=Bool) (bif r2 then ((L1 c_1).bind fun r4=>some (.inr (decide (r4≤15)))) else (some (.inr false))) fun u3:Bool=>some u3
def Cx (c_1:Contract)(i_2:Int):Option Bool:=
 (aG c_1.Clauses i_2).bind fun e3=>(ro e3.Id).bind fun r4=>be (ρ:=Bool) (bif (!r4) then (some (.inr true)) else ((ro e3.Action).bind fun r17=>cg (ρ:=Bool) (bif (!r17) then (some (.inr true)) else ((eq e3.Kind 1 4).bind fun r19=>cg (ρ:=Bool) (bif (!r19) then (some (.inr true)) else ((eq e3.Party 0 (ai ((len c_1.Parties) - 1))).bind fun r21=>cg (ρ:=Bool) (bif (!r21) then (some (.inr true)) else ((eq e3.Other 0 (ai ((len c_1.Parties) - 1))).bind fun r23=>cg (ρ:=Bool) (bif (!r23) then (some (.inr true)) else (cg (ρ:=Bool) (bif (e3.Party==e3.Other) then (some (.inr true)) else ((Cq e3.When).bind fun r26=>some (.inr (!r26)))) fun u25:Bool=>some (.inr u25))) fun u24:Bool=>some (.inr u24))) fun u22:Bool=>some (.inr u22))) fun u20:Bool=>some (.inr u20))) fun u18:Bool=>some (.inr u18))) fun u5:Bool=>bif u5 then (some false) else ((eq e3.Amount 0 1000000).bind fun r6=>be (ρ:=Bool) (bif (!r6) then (some (.inr true)) else ((eq e3.Within 0 400).bind fun r13=>cm (bif (!r13) then true else (cm (bif (e3.Kind != 1) then (cm (bif (e3.Amount != 0) then true else (e3.Within != 0)) fun u16:Bool=>u16) else false) fun u15:Bool=>u15)) fun u14:Bool=>some (.inr u14))) fun u7:Bool=>bif u7 then (some false) else (bif (e3.Repair==([]:ac)) then (some true) else ((vo c_1 e3.Repair).bind fun r8=>be (ρ:=Bool) (bif (decide (r8≥0)) then (cg (ρ:=Bool) (bif (r8 != i_2) then ((aG c_1.Clauses r8).bind fun e11=>cm (bif (e11.Kind==1) then (e3.Kind != 3) else false) fun u12:Bool=>some (.inr u12)) else (some (.inr false))) fun u10:Bool=>some (.inr u10)) else (some (.inr false))) fun u9:Bool=>some u9)))
def lG (l_8:List ac)(s_9:ac)(self:Int→Option ((List ac)⊕(ac×Int×(List ac))))(x3:Int):Option ((List ac)⊕(ac×Int×(List ac))):=
 cg (ρ:=(List ac)) (bif (decide (x3<(len l_8))) then ((aG l_8 x3).bind fun e5=>some (.inr (Op.bytesLess e5 s_9))) else (some (.inr false))) fun u4:Bool=>bif u4 then (self (ai (x3+1))) else (some (.inr (s_9,x3,l_8)))
def tZ (l_8:List ac)(s_9:ac): Int→Option ((List ac)⊕(ac×Int×(List ac))):=aL (lG l_8 s_9)
theorem zV (l_8:List ac)(s_9:ac): ∀a,Fin1 fun f=>lG l_8 s_9 f a:=by
 unfold lG
 repeat first|intro _|exact aY|exact bx|apply bC|apply bg|apply bh|apply bp|apply bD
theorem FS (l_8:List ac)(s_9:ac)(x:Int):tZ l_8 s_9 x=lG l_8 s_9 (tZ l_8 s_9) x:=bI (zV l_8 s_9) x
def xj (l_8:List ac)(s_9:ac):Option (List ac):=
 be (ρ:=(List ac)) (tZ l_8 s_9 0) fun u6:ac×Int×(List ac)=>be (ρ:=(List ac)) (bif (decide (u6.2.1<(len u6.2.2))) then ((aG u6.2.2 u6.2.1).bind fun e15=>some (.inr (e15==u6.1))) else (some (.inr false))) fun u7:Bool=>bif u7 then (some u6.2.2) else ((jD u6.2.2.length 0 u6.2.1).bind fun s8=>(jH u6.2.2 (0+Int.toNat (0)) (Int.toNat u6.2.1 - Int.toNat (0))).bind fun p9=>(iM 16 ([]:List ac) p9).bind fun a10=>(iM 16 a10 [u6.1]).bind fun a11=>(jD u6.2.2.length u6.2.1 (len u6.2.2)).bind fun s12=>(jH u6.2.2 (0+Int.toNat u6.2.1) (Int.toNat (len u6.2.2) - Int.toNat u6.2.1)).bind fun p13=>(iM 16 a11 p13).bind fun a14=>some a14)
def kf (cz:((List ac)×Condition)→Option (List ac))(l_4:List ac)(c_5:Condition)(self:(Int×(List ac))→Option ((List ac)⊕(List ac)))(x4:Int×(List ac)):Option ((List ac)⊕(List ac)):=
 bif (decide (x4.1<(len c_5.Parts))) then ((aG c_5.Parts x4.1).bind fun e5=>(cz (x4.2,e5)).bind fun r6=>self ((ai (x4.1+1)),r6)) else (some (.inr x4.2))
def mf (cz:((List ac)×Condition)→Option (List ac))(l_4:List ac)(c_5:Condition): (Int×(List ac))→Option ((List ac)⊕(List ac)):=aL (kf cz l_4 c_5)
theorem zU (cz:((List ac)×Condition)→Option (List ac))(l_4:List ac)(c_5:Condition): ∀a,Fin1 fun f=>kf cz l_4 c_5 f a:=by
 unfold kf
 repeat first|intro _|exact aY|exact bx|apply bC|apply bg|apply bh|apply bp|apply bD
theorem FP (cz:((List ac)×Condition)→Option (List ac))(l_4:List ac)(c_5:Condition)(x:Int×(List ac)):mf cz l_4 c_5 x=kf cz l_4 c_5 (mf cz l_4 c_5) x:=bI (zU cz l_4 c_5) x
def tX (cz:((List ac)×Condition)→Option (List ac))(l_4:List ac)(c_5:Condition):Option (List ac):=
 bif (c_5.Op==2) then ((xj l_4 c_5.Name).bind fun r3=>some r3) else (be (ρ:=(List ac)) (mf cz l_4 c_5 (0,l_4)) fun u7:(List ac)=>some u7)
def lF (cz:((List ac)×Condition)→Option (List ac))(x:(List ac)×Condition):Option (List ac):=tX cz x.1 x.2
def LX (l_4:List ac)(c_5:Condition):Option (List ac):=aL lF (l_4,c_5)
theorem XB:∀x,Fin1 fun cz=>lF cz x:=by
 unfold lF tX
 repeat first|intro _|exact aY|exact bx|exact jS|exact mp|exact iQ|exact kt|exact jl|exact jm|apply bC|apply bg|apply bh|apply bp|apply bD|apply qG|unfold mf|unfold kf
theorem Z6 (l_4:List ac)(c_5:Condition):LX l_4 c_5=tX (aL lF) l_4 c_5:=bI XB (l_4,c_5)
def lK (c_1:Contract)(self:(Int×(List ac))→Option ((List ac)⊕(List ac)))(x2:Int×(List ac)):Option ((List ac)⊕(List ac)):=
 bif (decide (x2.1<(len c_1.Clauses))) then ((aG c_1.Clauses x2.1).bind fun e3=>(xj x2.2 e3.Action).bind fun r4=>(aG c_1.Clauses x2.1).bind fun e5=>(LX r4 e5.When).bind fun r6=>self ((ai (x2.1+1)),r6)) else (some (.inr x2.2))
def nQ (c_1:Contract): (Int×(List ac))→Option ((List ac)⊕(List ac)):=aL (lK c_1)
theorem Aa (c_1:Contract): ∀a,Fin1 fun f=>lK c_1 f a:=by
 unfold lK
 repeat first|intro _|exact aY|exact bx|apply bC|apply bg|apply bh|apply bp|apply bD
theorem F8 (c_1:Contract)(x:Int×(List ac)):nQ c_1 x=lK c_1 (nQ c_1) x:=bI (Aa c_1) x
def pj (c_1:Contract):Option (List ac):=
 be (ρ:=(List ac)) (nQ c_1 (0,[])) fun u7:(List ac)=>some u7
def lI (c_1:Contract)(self:Int→Option (Bool⊕Unit))(x4:Int):Option (Bool⊕Unit):=
 bif (decide (x4<(len c_1.Clauses))) then ((aG c_1.Clauses x4).bind fun e5=>(vo c_1 e5.Id).bind fun r6=>cg (ρ:=Bool) (bif (r6 != x4) then (some (.inr true)) else ((Cx c_1 x4).bind fun r8=>some (.inr (!r8)))) fun u7:Bool=>bif u7 then (some (.inl false)) else (self (ai (x4+1)))) else (some (.inr ()))
def mh (c_1:Contract): Int→Option (Bool⊕Unit):=aL (lI c_1)
theorem zZ (c_1:Contract): ∀a,Fin1 fun f=>lI c_1 f a:=by
 unfold lI
 repeat first|intro _|exact aY|exact bx|apply bC|apply bg|apply bh|apply bp|apply bD
theorem F5 (c_1:Contract)(x:Int):mh c_1 x=lI c_1 (mh c_1) x:=bI (zZ c_1) x
def CB (c_1:Contract):Option Bool:=
 (eq (len c_1.Clauses) 1 12).bind fun r2=>be (ρ:=Bool) (bif (!r2) then (some (.inr true)) else ((xt c_1).bind fun r11=>some (.inr (!r11)))) fun u3:Bool=>bif u3 then (some false) else (be (ρ:=Bool) (mh c_1 0) fun u9:Unit=>(pj c_1).bind fun r10=>some (decide ((len r10)≤16)))
def ke (ay:List ac)(self:Int→Option (Bool⊕Unit))(x2:Int):Option (Bool⊕Unit):=
 cm (bif (decide (x2<(len ay))) then (decide (x2≤16)) else false) fun u3:Bool=>bif u3 then ((aG ay x2).bind fun e4=>(ro e4).bind fun r5=>cg (ρ:=Bool) (bif (!r5) then (some (.inr true)) else (cg (ρ:=Bool) (bif (decide (x2>0)) then ((aG ay (ai (x2 - 1))).bind fun e8=>(aG ay x2).bind fun e9=>some (.inr (!(Op.bytesLess e8 e9)))) else (some (.inr false))) fun u7:Bool=>some (.inr u7))) fun u6:Bool=>bif u6 then (some (.inl false)) else (self (ai (x2+1)))) else (some (.inr ()))
def ja (ay:List ac): Int→Option (Bool⊕Unit):=aL (ke ay)
theorem zQ (ay:List ac): ∀a,Fin1 fun f=>ke ay f a:=by
 unfold ke
 repeat first|intro _|exact aY|exact bx|apply bC|apply bg|apply bh|apply bp|apply bD
theorem vk (ay:List ac)(x:Int):ja ay x=ke ay (ja ay) x:=bI (zQ ay) x
def Cl (ay:List ac):Option Bool:=
 be (ρ:=Bool) (ja ay 0) fun u10:Unit=>some (decide ((len ay)≤16))
def nO (c_1:Contract)(i_2:Int)(self:Int→Option (Bool⊕Unit))(x3:Int):Option (Bool⊕Unit):=
 bif (decide (x3<(len c_1.Clauses))) then ((aG c_1.Clauses x3).bind fun e4=>(aG c_1.Clauses i_2).bind fun e5=>bif (e4.Repair==e5.Id) then (some (.inl true)) else (self (ai (x3+1)))) else (some (.inr ()))
def ue (c_1:Contract)(i_2:Int): Int→Option (Bool⊕Unit):=aL (nO c_1 i_2)
theorem zX (c_1:Contract)(i_2:Int): ∀a,Fin1 fun f=>nO c_1 i_2 f a:=by
 unfold nO
 repeat first|intro _|exact aY|exact bx|apply bC|apply bg|apply bh|apply bp|apply bD
theorem Qe (c_1:Contract)(i_2:Int)(x:Int):ue c_1 i_2 x=nO c_1 i_2 (ue c_1 i_2) x:=bI (zX c_1 i_2) x
def Cz (c_1:Contract)(i_2:Int):Option Bool:=
 be (ρ:=Bool) (ue c_1 i_2 0) fun u6:Unit=>some false
def lM (s_1:State)(i_2:Int)(self:(Int×Int)→Option (Int⊕Int))(x3:Int×Int):Option (Int⊕Int):=
 bif (decide (x3.2<(len s_1.Duties))) then ((aG s_1.Duties x3.2).bind fun e4=>cm (bif (e4.Clause==i_2) then (ai (x3.1+1)) else x3.1) fun u5:Int=>self (u5,(ai (x3.2+1)))) else (some (.inr x3.1))
def mi (s_1:State)(i_2:Int): (Int×Int)→Option (Int⊕Int):=aL (lM s_1 i_2)
theorem Ac (s_1:State)(i_2:Int): ∀a,Fin1 fun f=>lM s_1 i_2 f a:=by
 unfold lM
 repeat first|intro _|exact aY|exact bx|apply bC|apply bg|apply bh|apply bp|apply bD
theorem Gg (s_1:State)(i_2:Int)(x:Int×Int):mi s_1 i_2 x=lM s_1 i_2 (mi s_1 i_2) x:=bI (Ac s_1 i_2) x
def CE (s_1:State)(i_2:Int):Option Int:=
 be (ρ:=Int) (mi s_1 i_2 (0,0)) fun u6:Int=>some u6
def CG (c_1:Contract)(s_2:State)(k_3:Int):Option Bool:=
 (aG s_2.Duties k_3).bind fun e4=>(eq e4.Clause 0 (ai ((len c_1.Clauses) - 1))).bind fun r5=>be (ρ:=Bool) (bif (!r5) then (some (.inr true)) else ((aG c_1.Clauses e4.Clause).bind fun e35=>cg (ρ:=Bool) (bif (e35.Kind != 1) then (some (.inr true)) else ((eq e4.Since 0 s_2.Day).bind fun r37=>cg (ρ:=Bool) (bif (!r37) then (some (.inr true)) else ((aG c_1.Clauses e4.Clause).bind fun e39=>cg (ρ:=Bool) (bif (e4.Due != (ai (e4.Since+e39.Within))) then (some (.inr true)) else ((rl e4.Due).bind fun r41=>cg (ρ:=Bool) (bif (!r41) then (some (.inr true)) else ((eq e4.Status 1 4).bind fun r43=>some (.inr (!r43)))) fun u42:Bool=>some (.inr u42))) fun u40:Bool=>some (.inr u40))) fun u38:Bool=>some (.inr u38))) fun u36:Bool=>some (.inr u36))) fun u6:Bool=>bif u6 then (some false) else (be (ρ:=Bool) (bif (decide (k_3>0)) then ((aG s_2.Duties (ai (k_3 - 1))).bind fun e11=>cm (bif (decide (e11.Since>e4.Since)) then true else (cm (bif (e4.Status==1) then (cm (bif (decide (e4.Due<s_2.Day)) then true else (cm (bif s_2.Over then true else (cm (bif (e4.Status==3) then (cm (bif (decide (e4.Due≥s_2.Day)) then true else (cm (bif (e4.Status==4) then (!s_2.Over) else false) fun u18:Bool=>u18)) fun u17:Bool=>u17) else (cm (bif (e4.Status==4) then (!s_2.Over) else false) fun u19:Bool=>u19)) fun u16:Bool=>u16)) fun u15:Bool=>u15)) fun u14:Bool=>u14) else (cm (bif (e4.Status==3) then (cm (bif (decide (e4.Due≥s_2.Day)) then true else (cm (bif (e4.Status==4) then (!s_2.Over) else false) fun u22:Bool=>u22)) fun u21:Bool=>u21) else (cm (bif (e4.Status==4) then (!s_2.Over) else false) fun u23:Bool=>u23)) fun u20:Bool=>u20)) fun u13:Bool=>u13)) fun u12:Bool=>some (.inr u12)) else (cm (bif (e4.Status==1) then (cm (bif (decide (e4.Due<s_2.Day)) then true else (cm (bif s_2.Over then true else (cm (bif (e4.Status==3) then (cm (bif (decide (e4.Due≥s_2.Day)) then true else (cm (bif (e4.Status==4) then (!s_2.Over) else false) fun u29:Bool=>u29)) fun u28:Bool=>u28) else (cm (bif (e4.Status==4) then (!s_2.Over) else false) fun u30:Bool=>u30)) fun u27:Bool=>u27)) fun u26:Bool=>u26)) fun u25:Bool=>u25) else (cm (bif (e4.Status==3) then (cm (bif (decide (e4.Due≥s_2.Day)) then true else (cm (bif (e4.Status==4) then (!s_2.Over) else false) fun u33:Bool=>u33)) fun u32:Bool=>u32) else (cm (bif (e4.Status==4) then (!s_2.Over) else false) fun u34:Bool=>u34)) fun u31:Bool=>u31)) fun u24:Bool=>some (.inr u24))) fun u7:Bool=>bif u7 then (some false) else ((Cz c_1 e4.Clause).bind fun r8=>be (ρ:=Bool) (bif r8 then (some (.inr true)) else ((CE s_2 e4.Clause).bind fun r10=>some (.inr (r10==1)))) fun u9:Bool=>some u9))
def Ci (x_1:Int):Option Bool:=
 (eq x_1 (-1000000000) 1000000000).bind fun r2=>some r2
def lD (ay:List Int)(self:(Int×Int)→Option (Int⊕Int))(x2:Int×Int):Option (Int⊕Int):=
 bif (decide (x2.2<(len ay))) then ((aG ay x2.2).bind fun e3=>self ((ai (x2.1+e3)),(ai (x2.2+1)))) else (some (.inr x2.1))
def kU (ay:List Int): (Int×Int)→Option (Int⊕Int):=aL (lD ay)
theorem zP (ay:List Int): ∀a,Fin1 fun f=>lD ay f a:=by
 unfold lD
 repeat first|intro _|exact aY|exact bx|apply bC|apply bg|apply bh|apply bp|apply bD
theorem Fz (ay:List Int)(x:Int×Int):kU ay x=lD ay (kU ay) x:=bI (zP ay) x
def vj (ay:List Int):Option Int:=
 be (ρ:=Int) (kU ay (0,0)) fun u4:Int=>some u4
def nR (c_1:Contract)(s_2:State)(r5:(List ac))(self:Int→Option (Bool⊕Unit))(x6:Int):Option (Bool⊕Unit):=
 bif (decide (x6<(len s_2.Facts))) then ((aG s_2.Facts x6).bind fun e7=>(vl r5 e7).bind fun r8=>bif (!r8) then (some (.inl false)) else (self (ai (x6+1)))) else (some (.inr ()))
def uk (c_1:Contract)(s_2:State)(r5:(List ac)):Int→Option (Bool⊕Unit):=aL (nR c_1 s_2 r5)
theorem Ae (c_1:Contract)(s_2:State)(r5:(List ac)):∀a,Fin1 fun f=>nR c_1 s_2 r5 f a:=by
 unfold nR
 repeat first|intro _|exact aY|exact bx|apply bC|apply bg|apply bh|apply bp|apply bD
theorem Qg (c_1:Contract)(s_2:State)(r5:(List ac))(x:Int):uk c_1 s_2 r5 x=nR c_1 s_2 r5 (uk c_1 s_2 r5) x:=bI (Ae c_1 s_2 r5) x
def lN (c_1:Contract)(s_2:State)(self:Int→Option (Bool⊕Unit))(x10:Int):Option (Bool⊕Unit):=
 bif (decide (x10<(len s_2.Duties))) then ((CG c_1 s_2 x10).bind fun r11=>bif (!r11) then (some (.inl false)) else (self (ai (x10+1)))) else (some (.inr ()))
def nS (c_1:Contract)(s_2:State): Int→Option (Bool⊕Unit):=aL (lN c_1 s_2)
theorem Af (c_1:Contract)(s_2:State): ∀a,Fin1 fun f=>lN c_1 s_2 f a:=by
 unfold lN
 repeat first|intro _|exact aY|exact bx|apply bC|apply bg|apply bh|apply bp|apply bD
theorem Gl (c_1:Contract)(s_2:State)(x:Int):nS c_1 s_2 x=lN c_1 s_2 (nS c_1 s_2) x:=bI (Af c_1 s_2) x
def nT (c_1:Contract)(s_2:State)(self:Int→Option (Bool⊕Unit))(x13:Int):Option (Bool⊕Unit):=
 bif (decide (x13<(len s_2.Balances))) then ((aG s_2.Balances x13).bind fun e14=>(Ci e14).bind fun r15=>bif (!r15) then (some (.inl false)) else (self (ai (x13+1)))) else (some (.inr ()))
def ul (c_1:Contract)(s_2:State): Int→Option (Bool⊕Unit):=aL (nT c_1 s_2)
theorem Ah (c_1:Contract)(s_2:State): ∀a,Fin1 fun f=>nT c_1 s_2 f a:=by
 unfold nT
 repeat first|intro _|exact aY|exact bx|apply bC|apply bg|apply bh|apply bp|apply bD
theorem Qh (c_1:Contract)(s_2:State)(x:Int):ul c_1 s_2 x=nT c_1 s_2 (ul c_1 s_2) x:=bI (Ah c_1 s_2) x
def ru (c_1:Contract)(s_2:State):Option Bool:=
 (CB c_1).bind fun r3=>be (ρ:=Bool) (bif (!r3) then (some (.inr true)) else ((rl s_2.Day).bind fun r18=>cg (ρ:=Bool) (bif (!r18) then (some (.inr true)) else ((Cl s_2.Facts).bind fun r20=>cm (bif (!r20) then true else (cm (bif (decide ((len s_2.Duties)>24)) then true else ((len s_2.Balances) != (len c_1.Parties))) fun u22:Bool=>u22)) fun u21:Bool=>some (.inr u21))) fun u19:Bool=>some (.inr u19))) fun u4:Bool=>bif u4 then (some false) else ((pj c_1).bind fun r5=>be (ρ:=Bool) (uk c_1 s_2 r5 0) fun u9:Unit=>be (ρ:=Bool) (nS c_1 s_2 0) fun u12:Unit=>be (ρ:=Bool) (ul c_1 s_2 0) fun u16:Unit=>(vj s_2.Balances).bind fun r17=>some (r17==0))
def xa (c_1:Contract)(s_2:State)(iG:Int):Option Bool:=
 (ru c_1 s_2).bind fun r4=>be (ρ:=Bool) (bif r4 then ((eq iG 0 (ai ((len c_1.Parties) - 1))).bind fun r6=>some (.inr r6)) else (some (.inr false))) fun u5:Bool=>some u5
def lC (s_1:State)(dD:List Int)(k_3:Int)(self:Int→Option ((List Int)⊕Int))(x4:Int):Option ((List Int)⊕Int):=
 cg (ρ:=(List Int)) (bif (decide (x4>0)) then ((aG dD (ai (x4 - 1))).bind fun e6=>(aG s_1.Duties e6).bind fun e7=>(aG s_1.Duties k_3).bind fun e8=>some (.inr (decide (e7.Due>e8.Due)))) else (some (.inr false))) fun u5:Bool=>bif u5 then (self (ai (x4 - 1))) else (some (.inr x4))
def ph (s_1:State)(dD:List Int)(k_3:Int): Int→Option ((List Int)⊕Int):=aL (lC s_1 dD k_3)
theorem zO (s_1:State)(dD:List Int)(k_3:Int): ∀a,Fin1 fun f=>lC s_1 dD k_3 f a:=by
 unfold lC
 repeat first|intro _|exact aY|exact bx|apply bC|apply bg|apply bh|apply bp|apply bD
theorem Fu (s_1:State)(dD:List Int)(k_3:Int)(x:Int):ph s_1 dD k_3 x=lC s_1 dD k_3 (ph s_1 dD k_3) x:=bI (zO s_1 dD k_3) x
def vi (s_1:State)(dD:List Int)(k_3:Int):Option (List Int):=
 be (ρ:=(List Int)) (ph s_1 dD k_3 (len dD)) fun u9:Int=>(lf dD 0 u9).bind fun s10=>(iM 8 ([]:List Int) s10).bind fun a11=>(iM 8 a11 [k_3]).bind fun a12=>(lf dD u9 (len dD)).bind fun s13=>(iM 8 a12 s13).bind fun a14=>some a14
def lB (c_1:Contract)(s_2:State)(bK:Int)(cJ:Int)(self:(Int×(List Int))→Option ((List Int)⊕(List Int)))(x5:Int×(List Int)):Option ((List Int)⊕(List Int)):=
 bif (decide (x5.1<(len s_2.Duties))) then ((aG s_2.Duties x5.1).bind fun e6=>(aG c_1.Clauses e6.Clause).bind fun e7=>(aG s_2.Duties x5.1).bind fun e8=>cm (bif (e8.Status==1) then (cm (bif (decide (bK<0)) then (cm (bif (decide (cJ<0)) then true else (e7.Other==cJ)) fun u13:Bool=>u13) else (cm (bif (e7.Party==bK) then (cm (bif (decide (cJ<0)) then true else (e7.Other==cJ)) fun u15:Bool=>u15) else false) fun u14:Bool=>u14)) fun u12:Bool=>u12) else false) fun u9:Bool=>cg (ρ:=(List Int)) (bif u9 then ((vi s_2 x5.2 x5.1).bind fun r11=>some (.inr r11)) else (some (.inr x5.2))) fun u10:(List Int)=>self ((ai (x5.1+1)),u10)) else (some (.inr x5.2))
def kT (c_1:Contract)(s_2:State)(bK:Int)(cJ:Int): (Int×(List Int))→Option ((List Int)⊕(List Int)):=aL (lB c_1 s_2 bK cJ)
theorem zN (c_1:Contract)(s_2:State)(bK:Int)(cJ:Int): ∀a,Fin1 fun f=>lB c_1 s_2 bK cJ f a:=by
 unfold lB
 repeat first|intro _|exact aY|exact bx|apply bC|apply bg|apply bh|apply bp|apply bD
theorem Fn (c_1:Contract)(s_2:State)(bK:Int)(cJ:Int)(x:Int×(List Int)):kT c_1 s_2 bK cJ x=lB c_1 s_2 bK cJ (kT c_1 s_2 bK cJ) x:=bI (zN c_1 s_2 bK cJ) x
def Cd (c_1:Contract)(s_2:State)(bK:Int)(cJ:Int):Option (List Int):=
 be (ρ:=(List Int)) (kT c_1 s_2 bK cJ (0,[])) fun u16:(List Int)=>some u16
def lA (c_1:Contract)(s_2:State)(ez:List Int)(self:(Int×Int)→Option (Int⊕Int))(x4:Int×Int):Option (Int⊕Int):=
 bif (decide (x4.2<(len ez))) then ((aG ez x4.2).bind fun e5=>(aG s_2.Duties e5).bind fun e6=>(aG c_1.Clauses e6.Clause).bind fun e7=>self ((ai (x4.1+e7.Amount)),(ai (x4.2+1)))) else (some (.inr x4.1))
def kS (c_1:Contract)(s_2:State)(ez:List Int): (Int×Int)→Option (Int⊕Int):=aL (lA c_1 s_2 ez)
theorem zM (c_1:Contract)(s_2:State)(ez:List Int): ∀a,Fin1 fun f=>lA c_1 s_2 ez f a:=by
 unfold lA
 repeat first|intro _|exact aY|exact bx|apply bC|apply bg|apply bh|apply bp|apply bD
theorem Fk (c_1:Contract)(s_2:State)(ez:List Int)(x:Int×Int):kS c_1 s_2 ez x=lA c_1 s_2 ez (kS c_1 s_2 ez) x:=bI (zM c_1 s_2 ez) x
def Cb (c_1:Contract)(s_2:State)(ez:List Int):Option Int:=
 be (ρ:=Int) (kS c_1 s_2 ez (0,0)) fun u8:Int=>some u8
def B9 (c_1:Contract)(s_2:State)(bK:Int)(cJ:Int):Option (Int×Bool):=
 (xa c_1 s_2 bK).bind fun r5=>be (ρ:=Int×Bool) (bif (!r5) then (some (.inr true)) else ((xa c_1 s_2 cJ).bind fun r9=>some (.inr (!r9)))) fun u6:Bool=>bif u6 then (some (0,false)) else ((Cd c_1 s_2 bK cJ).bind fun r7=>(Cb c_1 s_2 r7).bind fun r8=>some (r8,true))
def i9 (n_1:Int)(oL:Int)(lT:Int):Option Bool:=
 cm (bif (decide (n_1≥oL)) then (decide (n_1≤lT)) else false) fun u4:Bool=>some u4
def Lb (s_1:ac)(c_2:Int):Option Int:=
 (rX s_1 c_2).bind fun r3=>some r3
def K8 (s_1:ac)(bn:ac):Option Int:=
 cm (bif ((len bn)==0) then true else (bn==s_1)) fun u3:Bool=>bif u3 then (some 0) else (bif ((len bn)==1) then ((aG bn 0).bind fun c4=>(Lb s_1 (c4.toNat:Int)).bind fun r5=>some r5) else (bif (decide ((len bn)≥(len s_1))) then (some (-1)) else none))
def Ie (s_1:ac)(bn:ac):Option Int:=
 (K8 s_1 bn).bind fun r3=>some r3
def sf (s_1:ac)(bn:ac)(self:(ac×Int)→Option (Int⊕Unit))(x5:ac×Int):Option (Int⊕Unit):=
 (Ie x5.1 bn).bind fun r6=>bif (r6==(-1)) then (some (.inl x5.2)) else ((lf x5.1 (ai (r6+(len bn))) (len x5.1)).bind fun s7=>self (s7,(ai (x5.2+1))))
def Pe (s_1:ac)(bn:ac): (ac×Int)→Option (Int⊕Unit):=aL (sf s_1 bn)
theorem OE (s_1:ac)(bn:ac): ∀a,Fin1 fun f=>sf s_1 bn f a:=by
 unfold sf
 repeat first|intro _|exact aY|exact bx|apply bC|apply bg|apply bh|apply bp|apply bD
def Mb (s_1:ac)(bn:ac):Option Int:=
 bif ((len bn)==0) then none else (bif ((len bn)==1) then ((aG bn 0).bind fun c3=>(yu s_1 (c3.toNat:Int)).bind fun r4=>some r4) else (be (ρ:=Int) (Pe s_1 bn (s_1,0)) fun u8:Unit=>none))
def sh (s_1:ac)(dX:ac)(dG:Int)(n_4:Int)(u5:Int)(self:(ac×Int×(List ac))→Option ((List ac)⊕(ac×Int×(List ac))))(x7:ac×Int×(List ac)):Option ((List ac)⊕(ac×Int×(List ac))):=
 bif (decide (x7.2.1<(ai ((if (ai ((len s_1)+1))<u5 then (ai ((len s_1)+1)) else u5) - 1)))) then ((Ie x7.1 dX).bind fun r8=>bif (decide (r8<0)) then (some (.inr (x7.1,x7.2.1,x7.2.2))) else ((lf x7.1 0 (ai (r8+dG))).bind fun s9=>(aG x7.2.2 x7.2.1).bind fun e10=>(lf x7.1 (ai (r8+(len dX))) (len x7.1)).bind fun s11=>self (s11,(ai (x7.2.1+1)),(dj x7.2.2 x7.2.1 s9)))) else (some (.inr (x7.1,x7.2.1,x7.2.2)))
def yE (s_1:ac)(dX:ac)(dG:Int)(n_4:Int)(u5:Int):(ac×Int×(List ac))→Option ((List ac)⊕(ac×Int×(List ac))):=aL (sh s_1 dX dG n_4 u5)
theorem Ai (s_1:ac)(dX:ac)(dG:Int)(n_4:Int)(u5:Int):∀a,Fin1 fun f=>sh s_1 dX dG n_4 u5 f a:=by
 unfold sh
 repeat first|intro _|exact aY|exact bx|apply bC|apply bg|apply bh|apply bp|apply bD
def Md (s_1:ac)(dX:ac)(dG:Int)(n_4:Int):Option (List ac):=
 bif (n_4==0) then (some []) else (bif (dX==([]:ac)) then none else (be (ρ:=(List ac)) (bif (decide (n_4<0)) then ((Mb s_1 dX).bind fun r16=>some (.inr (ai (r16+1)))) else (some (.inr n_4))) fun u5:Int=>(sB 16 [] (if (ai ((len s_1)+1))<u5 then (ai ((len s_1)+1)) else u5)).bind fun m6=>be (ρ:=(List ac)) (yE s_1 dX dG n_4 u5 (s_1,0,m6)) fun u12:ac×Int×(List ac)=>(aG u12.2.2 u12.2.1).bind fun e13=>(jD (dj u12.2.2 u12.2.1 u12.1).length 0 (ai (u12.2.1+1))).bind fun s14=>(jH (dj u12.2.2 u12.2.1 u12.1) (0+Int.toNat (0)) (Int.toNat (ai (u12.2.1+1)) - Int.toNat (0))).bind fun p15=>some p15))
def CK (s_1:ac)(dX:ac):Option (List ac):=
 (Md s_1 dX 0 (-1)).bind fun r3=>some r3
def ly (s_1:List ac)(v_2:ac)(self:Int→Option (Int⊕Unit))(x3:Int):Option (Int⊕Unit):=
 bif (decide (x3<(len s_1))) then ((aG s_1 x3).bind fun e4=>bif (v_2==e4) then (some (.inl x3)) else (self (ai (x3+1)))) else (some (.inr ()))
def qX (s_1:List ac)(v_2:ac): Int→Option (Int⊕Unit):=aL (ly s_1 v_2)
theorem zz (s_1:List ac)(v_2:ac): ∀a,Fin1 fun f=>ly s_1 v_2 f a:=by
 unfold ly
 repeat first|intro _|exact aY|exact bx|apply bC|apply bg|apply bh|apply bp|apply bD
theorem EW (s_1:List ac)(v_2:ac)(x:Int):qX s_1 v_2 x=ly s_1 v_2 (qX s_1 v_2) x:=bI (zz s_1 v_2) x
def B0 (s_1:List ac)(v_2:ac):Option Int:=
 be (ρ:=Int) (qX s_1 v_2 0) fun u5:Unit=>some (-1)
def ri (s_1:List ac)(v_2:ac):Option Bool:=
 (B0 s_1 v_2).bind fun r3=>some (decide (r3≥0))
def pm (s_1:ac)(self:Int→Option (Bool⊕Unit))(x4:Int):Option (Bool⊕Unit):=
 bif (decide (x4<(len s_1))) then ((aG s_1 x4).bind fun c5=>cm (bif (decide ((c5.toNat:Int)<97)) then (cm (bif (decide ((c5.toNat:Int)<48)) then true else (decide ((c5.toNat:Int)>57))) fun u7:Bool=>u7) else (cm (bif (decide ((c5.toNat:Int)>122)) then (cm (bif (decide ((c5.toNat:Int)<48)) then true else (decide ((c5.toNat:Int)>57))) fun u9:Bool=>u9) else false) fun u8:Bool=>u8)) fun u6:Bool=>bif u6 then (some (.inl false)) else (self (ai (x4+1)))) else (some (.inr ()))
def xy (s_1:ac): Int→Option (Bool⊕Unit):=aL (pm s_1)
theorem GB (s_1:ac): ∀a,Fin1 fun f=>pm s_1 f a:=by
 unfold pm
 repeat first|intro _|exact aY|exact bx|apply bC|apply bg|apply bh|apply bp|apply bD
theorem UU (s_1:ac)(x:Int):xy s_1 x=pm s_1 (xy s_1) x:=bI (GB s_1) x
def wh (s_1:ac):Option Bool:=
 (i9 (len s_1) 1 8).bind fun r2=>be (ρ:=Bool) (bif (!r2) then (some (.inr true)) else ((aG s_1 0).bind fun c13=>cg (ρ:=Bool) (bif (decide ((c13.toNat:Int)<97)) then (some (.inr true)) else ((aG s_1 0).bind fun c15=>some (.inr (decide ((c15.toNat:Int)>122))))) fun u14:Bool=>some (.inr u14))) fun u3:Bool=>bif u3 then (some false) else (be (ρ:=Bool) (xy s_1 0) fun u10:Unit=>(CK ([116,114,117,101,32,102,114,111,109,32,110,111,116,32,97,110,100,32,111,114,32,98,111,116,104,32,101,105,116,104,101,114,32,105,116,32,105,110]:ac) ([32]:ac)).bind fun r11=>(ri r11 s_1).bind fun r12=>some (!r12))
def mX (ay:List ac)(self:Int→Option (Bool⊕Unit))(x2:Int):Option (Bool⊕Unit):=
 bif (decide (x2<(len ay))) then ((aG ay x2).bind fun e3=>(wh e3).bind fun r4=>cg (ρ:=Bool) (bif (!r4) then (some (.inr true)) else ((lf ay 0 x2).bind fun s6=>(ri s6 e3).bind fun r7=>some (.inr r7))) fun u5:Bool=>bif u5 then (some (.inl false)) else (self (ai (x2+1)))) else (some (.inr ()))
def xz (ay:List ac): Int→Option (Bool⊕Unit):=aL (mX ay)
theorem GH (ay:List ac): ∀a,Fin1 fun f=>mX ay f a:=by
 unfold mX
 repeat first|intro _|exact aY|exact bx|apply bC|apply bg|apply bh|apply bp|apply bD
theorem Jd (ay:List ac)(x:Int):xz ay x=mX ay (xz ay) x:=bI (GH ay) x
def Mi (ay:List ac):Option Bool:=
 be (ρ:=Bool) (xz ay 0) fun u8:Unit=>(i9 (len ay) 2 4).bind fun r9=>some r9
def UX (x_1:Clause)(a_2:ac):Option Bool:=
 some (x_1.Id==a_2)
def nB (s_1:List Clause)(f_2:ac)(self:Int→Option (Int⊕Unit))(x3:Int):Option (Int⊕Unit):=
 bif (decide (x3<(len s_1))) then ((aG s_1 x3).bind fun e4=>(UX e4 f_2).bind fun r5=>bif r5 then (some (.inl x3)) else (self (ai (x3+1)))) else (some (.inr ()))
def tF (s_1:List Clause)(f_2:ac): Int→Option (Int⊕Unit):=aL (nB s_1 f_2)
theorem zr (s_1:List Clause)(f_2:ac): ∀a,Fin1 fun f=>nB s_1 f_2 f a:=by
 unfold nB
 repeat first|intro _|exact aY|exact bx|apply bC|apply bg|apply bh|apply bp|apply bD
theorem P2 (s_1:List Clause)(f_2:ac)(x:Int):tF s_1 f_2 x=nB s_1 f_2 (tF s_1 f_2) x:=bI (zr s_1 f_2) x
def HZ (s_1:List Clause)(f_2:ac):Option Int:=
 be (ρ:=Int) (tF s_1 f_2 0) fun u6:Unit=>some (-1)
def GI (c_1:Contract)(fj:ac):Option Int:=
 (HZ c_1.Clauses fj).bind fun r3=>some r3
def oY (gZ:Int):Option Bool:=
 (i9 gZ 0 36524).bind fun r2=>some r2
def lP (bm:(Condition×Int)→Option Int)(c_1:Condition)(cI:Int)(self:(Int×Int)→Option (Int⊕Int))(x5:Int×Int):Option (Int⊕Int):=
 bif (decide (x5.2<(len c_1.Parts))) then ((aG c_1.Parts x5.2).bind fun e6=>(bm (e6,x5.1)).bind fun r7=>bif (decide (r7<0)) then (some (.inl (-1))) else (self (r7,(ai (x5.2+1))))) else (some (.inr x5.1))
def mG (bm:(Condition×Int)→Option Int)(c_1:Condition)(cI:Int): (Int×Int)→Option (Int⊕Int):=aL (lP bm c_1 cI)
theorem GL (bm:(Condition×Int)→Option Int)(c_1:Condition)(cI:Int): ∀a,Fin1 fun f=>lP bm c_1 cI f a:=by
 unfold lP
 repeat first|intro _|exact aY|exact bx|apply bC|apply bg|apply bh|apply bp|apply bD
theorem Je (bm:(Condition×Int)→Option Int)(c_1:Condition)(cI:Int)(x:Int×Int):mG bm c_1 cI x=lP bm c_1 cI (mG bm c_1 cI) x:=bI (GL bm c_1 cI) x
def yH (bm:(Condition×Int)→Option Int)(c_1:Condition)(cI:Int):Option Int:=
 be (ρ:=Int) (bif (decide ((ai (cI+1))>15)) then (some (.inr true)) else ((i9 c_1.Op 1 6).bind fun r20=>cg (ρ:=Int) (bif (!r20) then (some (.inr true)) else ((aG [(-1),0,0,0,1,2,2] c_1.Op).bind fun e22=>some (.inr ((len c_1.Parts) != e22)))) fun u21:Bool=>some (.inr u21))) fun u3:Bool=>bif u3 then (some (-1)) else (be (ρ:=Int) (bif (!((c_1.Op==2)==(!(c_1.Name==([]:ac))))) then (some (.inr true)) else (cg (ρ:=Int) (bif (c_1.Op==2) then ((wh c_1.Name).bind fun r10=>cg (ρ:=Int) (bif (!r10) then (some (.inr true)) else (cg (ρ:=Int) (bif (c_1.Op != 3) then (cg (ρ:=Int) (bif (c_1.Day != 0) then (some (.inr true)) else ((oY c_1.Day).bind fun r14=>some (.inr (!r14)))) fun u13:Bool=>some (.inr u13)) else ((oY c_1.Day).bind fun r15=>some (.inr (!r15)))) fun u12:Bool=>some (.inr u12))) fun u11:Bool=>some (.inr u11)) else (cg (ρ:=Int) (bif (c_1.Op != 3) then (cg (ρ:=Int) (bif (c_1.Day != 0) then (some (.inr true)) else ((oY c_1.Day).bind fun r18=>some (.inr (!r18)))) fun u17:Bool=>some (.inr u17)) else ((oY c_1.Day).bind fun r19=>some (.inr (!r19)))) fun u16:Bool=>some (.inr u16))) fun u9:Bool=>some (.inr u9))) fun u4:Bool=>bif u4 then (some (-1)) else (be (ρ:=Int) (mG bm c_1 cI ((ai (cI+1)),0)) fun u8:Int=>some u8))
def mO (bm:(Condition×Int)→Option Int)(x:Condition×Int):Option Int:=yH bm x.1 x.2
def UY (c_1:Condition)(cI:Int):Option Int:=aL mO (c_1,cI)
theorem aaj:∀x,Fin1 fun bm=>mO bm x:=by
 unfold mO yH
 repeat first|intro _|exact aY|exact bx|exact jS|exact mp|exact iQ|exact kt|exact jl|exact jm|apply bC|apply bg|apply bh|apply bp|apply bD|apply qG|unfold mG|unfold lP
theorem adt (c_1:Condition)(cI:Int):UY c_1 cI=yH (aL mO) c_1 cI:=bI aaj (c_1,cI)
def L0 (c_1:Condition):Option Bool:=
 (UY c_1 0).bind fun r2=>some (decide (r2>0))
def Mm (c_1:Contract)(i_2:Int):Option Bool:=
 (aG c_1.Clauses i_2).bind fun e3=>(wh e3.Id).bind fun r4=>be (ρ:=Bool) (bif (!r4) then (some (.inr true)) else ((GI c_1 e3.Id).bind fun r23=>cg (ρ:=Bool) (bif (r23 != i_2) then (some (.inr true)) else ((wh e3.Action).bind fun r25=>cg (ρ:=Bool) (bif (!r25) then (some (.inr true)) else ((i9 e3.Kind 1 4).bind fun r27=>some (.inr (!r27)))) fun u26:Bool=>some (.inr u26))) fun u24:Bool=>some (.inr u24))) fun u5:Bool=>bif u5 then (some false) else ((i9 e3.Party 0 (ai ((len c_1.Parties) - 1))).bind fun r6=>be (ρ:=Bool) (bif (!r6) then (some (.inr true)) else ((i9 e3.Other 0 (ai ((len c_1.Parties) - 1))).bind fun r19=>cg (ρ:=Bool) (bif (!r19) then (some (.inr true)) else (cg (ρ:=Bool) (bif (e3.Party==e3.Other) then (some (.inr true)) else ((L0 e3.When).bind fun r22=>some (.inr (!r22)))) fun u21:Bool=>some (.inr u21))) fun u20:Bool=>some (.inr u20))) fun u7:Bool=>bif u7 then (some false) else ((i9 e3.Amount 0 1000000).bind fun r8=>be (ρ:=Bool) (bif (!r8) then (some (.inr true)) else ((i9 e3.Within 0 400).bind fun r15=>cm (bif (!r15) then true else (cm (bif (e3.Kind != 1) then (cm (bif (e3.Amount != 0) then true else (e3.Within != 0)) fun u18:Bool=>u18) else false) fun u17:Bool=>u17)) fun u16:Bool=>some (.inr u16))) fun u9:Bool=>bif u9 then (some false) else (bif (e3.Repair==([]:ac)) then (some true) else ((GI c_1 e3.Repair).bind fun r10=>be (ρ:=Bool) (bif (e3.Kind != 3) then (cg (ρ:=Bool) (bif (decide (r10≥0)) then (cg (ρ:=Bool) (bif (r10 != i_2) then ((aG c_1.Clauses r10).bind fun e14=>some (.inr (e14.Kind==1))) else (some (.inr false))) fun u13:Bool=>some (.inr u13)) else (some (.inr false))) fun u12:Bool=>some (.inr u12)) else (some (.inr false))) fun u11:Bool=>some u11))))
def lO (cF:(Condition×(List ac))→Option (List ac))(c_3:Condition)(dR:List ac)(self:(Int×(List ac))→Option ((List ac)⊕(List ac)))(x4:Int×(List ac)):Option ((List ac)⊕(List ac)):=
 bif (decide (x4.1<(len c_3.Parts))) then ((aG c_3.Parts x4.1).bind fun e5=>(cF (e5,x4.2)).bind fun r6=>self ((ai (x4.1+1)),r6)) else (some (.inr x4.2))
def ow (cF:(Condition×(List ac))→Option (List ac))(c_3:Condition)(dR:List ac): (Int×(List ac))→Option ((List ac)⊕(List ac)):=aL (lO cF c_3 dR)
theorem GF (cF:(Condition×(List ac))→Option (List ac))(c_3:Condition)(dR:List ac): ∀a,Fin1 fun f=>lO cF c_3 dR f a:=by
 unfold lO
 repeat first|intro _|exact aY|exact bx|apply bC|apply bg|apply bh|apply bp|apply bD
theorem Jc (cF:(Condition×(List ac))→Option (List ac))(c_3:Condition)(dR:List ac)(x:Int×(List ac)):ow cF c_3 dR x=lO cF c_3 dR (ow cF c_3 dR) x:=bI (GF cF c_3 dR) x
def yG (cF:(Condition×(List ac))→Option (List ac))(c_3:Condition)(dR:List ac):Option (List ac):=
 be (ρ:=(List ac)) (bif (c_3.Op==2) then ((iM 16 dR [c_3.Name]).bind fun a8=>some (.inr a8)) else (some (.inr dR))) fun u3:(List ac)=>be (ρ:=(List ac)) (ow cF c_3 dR (0,u3)) fun u7:(List ac)=>some u7
def ov (cF:(Condition×(List ac))→Option (List ac))(x:Condition×(List ac)):Option (List ac):=yG cF x.1 x.2
def UV (c_3:Condition)(dR:List ac):Option (List ac):=aL ov (c_3,dR)
theorem aad:∀x,Fin1 fun cF=>ov cF x:=by
 unfold ov yG
 repeat first|intro _|exact aY|exact bx|exact jS|exact mp|exact iQ|exact kt|exact jl|exact jm|apply bC|apply bg|apply bh|apply bp|apply bD|apply qG|unfold ow|unfold lO
theorem ads (c_3:Condition)(dR:List ac):UV c_3 dR=yG (aL ov) c_3 dR:=bI aad (c_3,dR)
def lx (s_2:List ac)(x2:Int)(self:(Int×Int×(List ac))→Option ((List ac)⊕(Int×(List ac))))(x6:Int×Int×(List ac)):Option ((List ac)⊕(Int×(List ac))):=
 bif (decide (x6.2.1<(((Int.toNat (len s_2) - Int.toNat x2):Nat):Int))) then ((vK x6.2.2 (0+Int.toNat x2) (Int.toNat (len s_2) - Int.toNat x2) x6.2.1).bind fun e7=>(vK x6.2.2 (0+Int.toNat x2) (Int.toNat (len s_2) - Int.toNat x2) (ai (x6.2.1 - 1))).bind fun e8=>cg (ρ:=(List ac)) (bif (!(e7==e8)) then ((vK x6.2.2 (0+Int.toNat x2) (Int.toNat (len s_2) - Int.toNat x2) x6.2.1).bind fun e10=>(aG x6.2.2 x6.1).bind fun e11=>some (.inr ((ai (x6.1+1)),(dj x6.2.2 x6.1 e10)))) else (some (.inr (x6.1,x6.2.2)))) fun u9:Int×(List ac)=>self (u9.1,(ai (x6.2.1+1)),u9.2)) else (some (.inr (x6.1,x6.2.2)))
def kQ (s_2:List ac)(x2:Int):(Int×Int×(List ac))→Option ((List ac)⊕(Int×(List ac))):=aL (lx s_2 x2)
theorem zq (s_2:List ac)(x2:Int):∀a,Fin1 fun f=>lx s_2 x2 f a:=by
 unfold lx
 repeat first|intro _|exact aY|exact bx|apply bC|apply bg|apply bh|apply bp|apply bD
theorem Ev (s_2:List ac)(x2:Int)(x:Int×Int×(List ac)):kQ s_2 x2 x=lx s_2 x2 (kQ s_2 x2) x:=bI (zq s_2 x2) x
def lw (s_2:List ac)(self:Int→Option ((List ac)⊕(List ac)))(x2:Int):Option ((List ac)⊕(List ac)):=
 bif (decide (x2<(len s_2))) then ((aG s_2 x2).bind fun e3=>(aG s_2 (ai (x2 - 1))).bind fun e4=>bif (e3==e4) then ((jD s_2.length x2 (len s_2)).bind fun s5=>cg (ρ:=(List ac)) (kQ s_2 x2 (x2,1,s_2)) fun u15:Int×(List ac)=>(jD u15.2.length u15.1 (len u15.2)).bind fun s16=>(xK u15.2 (0+Int.toNat u15.1) (Int.toNat (len u15.2) - Int.toNat u15.1) []).bind fun k17=>(jD k17.length 0 u15.1).bind fun s18=>(jH k17 (0+Int.toNat (0)) (Int.toNat u15.1 - Int.toNat (0))).bind fun p19=>some (.inl p19)) else (self (ai (x2+1)))) else (some (.inr s_2))
def qW (s_2:List ac): Int→Option ((List ac)⊕(List ac)):=aL (lw s_2)
theorem zp (s_2:List ac): ∀a,Fin1 fun f=>lw s_2 f a:=by
 unfold lw
 repeat first|intro _|exact aY|exact bx|apply bC|apply bg|apply bh|apply bp|apply bD
theorem Eu (s_2:List ac)(x:Int):qW s_2 x=lw s_2 (qW s_2) x:=bI (zp s_2) x
def BM (s_2:List ac):Option (List ac):=
 bif (decide ((len s_2)<2)) then (some s_2) else (be (ρ:=(List ac)) (qW s_2 1) fun u20:(List ac)=>some u20)
def AV (jU:List ac):Option (List ac):=
 (uW jU).bind fun r2=>bif Nat.beq r2.length jU.length then ((BM r2).bind fun r4=>some r4) else none
def mZ (c_1:Contract)(self:(Int×(List ac))→Option ((List ac)⊕(List ac)))(x2:Int×(List ac)):Option ((List ac)⊕(List ac)):=
 bif (decide (x2.1<(len c_1.Clauses))) then ((aG c_1.Clauses x2.1).bind fun e3=>(iM 16 x2.2 [e3.Action]).bind fun a4=>(UV e3.When a4).bind fun r5=>self ((ai (x2.1+1)),r5)) else (some (.inr x2.2))
def qa (c_1:Contract): (Int×(List ac))→Option ((List ac)⊕(List ac)):=aL (mZ c_1)
theorem GO (c_1:Contract): ∀a,Fin1 fun f=>mZ c_1 f a:=by
 unfold mZ
 repeat first|intro _|exact aY|exact bx|apply bC|apply bg|apply bh|apply bp|apply bD
theorem Jg (c_1:Contract)(x:Int×(List ac)):qa c_1 x=mZ c_1 (qa c_1) x:=bI (GO c_1) x
def xA (c_1:Contract):Option (List ac):=
 be (ρ:=(List ac)) (qa c_1 (0,[])) fun u6:(List ac)=>(AV u6).bind fun r7=>some r7
def mW (c_1:Contract)(self:Int→Option (Bool⊕Unit))(x4:Int):Option (Bool⊕Unit):=
 bif (decide (x4<(len c_1.Clauses))) then ((Mm c_1 x4).bind fun r5=>bif (!r5) then (some (.inl false)) else (self (ai (x4+1)))) else (some (.inr ()))
def ou (c_1:Contract): Int→Option (Bool⊕Unit):=aL (mW c_1)
theorem Gx (c_1:Contract): ∀a,Fin1 fun f=>mW c_1 f a:=by
 unfold mW
 repeat first|intro _|exact aY|exact bx|apply bC|apply bg|apply bh|apply bp|apply bD
theorem Ja (c_1:Contract)(x:Int):ou c_1 x=mW c_1 (ou c_1) x:=bI (Gx c_1) x
def Mf (c_1:Contract):Option Bool:=
 (Mi c_1.Parties).bind fun r2=>be (ρ:=Bool) (bif (!r2) then (some (.inr true)) else ((i9 (len c_1.Clauses) 1 12).bind fun r8=>some (.inr (!r8)))) fun u3:Bool=>bif u3 then (some false) else (be (ρ:=Bool) (ou c_1 0) fun u6:Unit=>(xA c_1).bind fun r7=>some (decide ((len r7)≤16)))
def na (cj:List ac)(self:Int→Option (Bool⊕Unit))(x2:Int):Option (Bool⊕Unit):=
 bif (decide (x2<(len cj))) then ((aG cj x2).bind fun e3=>(wh e3).bind fun r4=>cg (ρ:=Bool) (bif (!r4) then (some (.inr true)) else (cg (ρ:=Bool) (bif (decide (x2>0)) then ((aG cj (ai (x2 - 1))).bind fun e7=>some (.inr (Op.bytesLess e3 e7||e3==e7))) else (some (.inr false))) fun u6:Bool=>some (.inr u6))) fun u5:Bool=>bif u5 then (some (.inl false)) else (self (ai (x2+1)))) else (some (.inr ()))
def ox (cj:List ac): Int→Option (Bool⊕Unit):=aL (na cj)
theorem GR (cj:List ac): ∀a,Fin1 fun f=>na cj f a:=by
 unfold na
 repeat first|intro _|exact aY|exact bx|apply bC|apply bg|apply bh|apply bp|apply bD
theorem Jh (cj:List ac)(x:Int):ox cj x=na cj (ox cj) x:=bI (GR cj) x
def Ms (cj:List ac):Option Bool:=
 be (ρ:=Bool) (ox cj 0) fun u8:Unit=>some (decide ((len cj)≤16))
def AP (f_1:ac)(a_2:List ac):Option Bool:=
 (ri a_2 f_1).bind fun r3=>some (!r3)
def nG (s_1:List ac)(f_2:(List ac))(self:Int→Option (Int⊕Unit))(x3:Int):Option (Int⊕Unit):=
 bif (decide (x3<(len s_1))) then ((aG s_1 x3).bind fun e4=>(AP e4 f_2).bind fun r5=>bif r5 then (some (.inl x3)) else (self (ai (x3+1)))) else (some (.inr ()))
def tK (s_1:List ac)(f_2:(List ac)): Int→Option (Int⊕Unit):=aL (nG s_1 f_2)
theorem zy (s_1:List ac)(f_2:(List ac)): ∀a,Fin1 fun f=>nG s_1 f_2 f a:=by
 unfold nG
 repeat first|intro _|exact aY|exact bx|apply bC|apply bg|apply bh|apply bp|apply bD
theorem P8 (s_1:List ac)(f_2:(List ac))(x:Int):tK s_1 f_2 x=nG s_1 f_2 (tK s_1 f_2) x:=bI (zy s_1 f_2) x
def H5 (s_1:List ac)(f_2:(List ac)):Option Int:=
 be (ρ:=Int) (tK s_1 f_2 0) fun u6:Unit=>some (-1)
def HY (s_1:List ac)(f_2:(List ac)):Option Bool:=
 (H5 s_1 f_2).bind fun r3=>some (decide (r3≥0))
def rZ (ay:List Int)(self:(Int×Int)→Option (Int⊕Int))(x2:Int×Int):Option (Int⊕Int):=
 bif (decide (x2.2<(len ay))) then ((aG ay x2.2).bind fun e3=>self ((ai (x2.1+e3)),(ai (x2.2+1)))) else (some (.inr x2.1))
def HQ (ay:List Int): (Int×Int)→Option (Int⊕Int):=aL (rZ ay)
theorem NF (ay:List Int): ∀a,Fin1 fun f=>rZ ay f a:=by
 unfold rZ
 repeat first|intro _|exact aY|exact bx|apply bC|apply bg|apply bh|apply bp|apply bD
def wv (ay:List Int):Option Int:=
 be (ρ:=Int) (HQ ay (0,0)) fun u4:Int=>some u4
def Mq (x_1:Clause)(a_2:Contract)(a_3:Int):Option Bool:=
 (aG a_2.Clauses a_3).bind fun e4=>some (x_1.Repair==e4.Id)
def nC (s_1:List Clause)(f_2:Contract×Int)(self:Int→Option (Int⊕Unit))(x3:Int):Option (Int⊕Unit):=
 bif (decide (x3<(len s_1))) then ((aG s_1 x3).bind fun e4=>(Mq e4 f_2.1 f_2.2).bind fun r5=>bif r5 then (some (.inl x3)) else (self (ai (x3+1)))) else (some (.inr ()))
def tG (s_1:List Clause)(f_2:Contract×Int): Int→Option (Int⊕Unit):=aL (nC s_1 f_2)
theorem zt (s_1:List Clause)(f_2:Contract×Int): ∀a,Fin1 fun f=>nC s_1 f_2 f a:=by
 unfold nC
 repeat first|intro _|exact aY|exact bx|apply bC|apply bg|apply bh|apply bp|apply bD
theorem P3 (s_1:List Clause)(f_2:Contract×Int)(x:Int):tG s_1 f_2 x=nC s_1 f_2 (tG s_1 f_2) x:=bI (zt s_1 f_2) x
def H0 (s_1:List Clause)(f_2:Contract×Int):Option Int:=
 be (ρ:=Int) (tG s_1 f_2 0) fun u6:Unit=>some (-1)
def HU (s_1:List Clause)(f_2:Contract×Int):Option Bool:=
 (H0 s_1 (f_2.1,f_2.2)).bind fun r3=>some (decide (r3≥0))
def Mp (c_1:Contract)(i_2:Int):Option Bool:=
 (HU c_1.Clauses (c_1,i_2)).bind fun r3=>some r3
def Pg (jX:Duty)(a_2:Duty):Option Bool:=
 some (jX.Clause==a_2.Clause)
def nD (s_1:List Duty)(f_2:Duty)(self:Int→Option (Int⊕Unit))(x3:Int):Option (Int⊕Unit):=
 bif (decide (x3<(len s_1))) then ((aG s_1 x3).bind fun e4=>(Pg e4 f_2).bind fun r5=>bif r5 then (some (.inl x3)) else (self (ai (x3+1)))) else (some (.inr ()))
def tH (s_1:List Duty)(f_2:Duty): Int→Option (Int⊕Unit):=aL (nD s_1 f_2)
theorem zu (s_1:List Duty)(f_2:Duty): ∀a,Fin1 fun f=>nD s_1 f_2 f a:=by
 unfold nD
 repeat first|intro _|exact aY|exact bx|apply bC|apply bg|apply bh|apply bp|apply bD
theorem P4 (s_1:List Duty)(f_2:Duty)(x:Int):tH s_1 f_2 x=nD s_1 f_2 (tH s_1 f_2) x:=bI (zu s_1 f_2) x
def H1 (s_1:List Duty)(f_2:Duty):Option Int:=
 be (ρ:=Int) (tH s_1 f_2 0) fun u6:Unit=>some (-1)
def HV (s_1:List Duty)(f_2:Duty):Option Bool:=
 (H1 s_1 f_2).bind fun r3=>some (decide (r3≥0))
def Mr (c_1:Contract)(s_2:State)(i_3:Int):Option Bool:=
 (aG s_2.Duties i_3).bind fun e4=>(i9 e4.Clause 0 (ai ((len c_1.Clauses) - 1))).bind fun r5=>be (ρ:=Bool) (bif (!r5) then (some (.inr true)) else ((aG c_1.Clauses e4.Clause).bind fun e18=>cg (ρ:=Bool) (bif (e18.Kind != 1) then (some (.inr true)) else ((i9 e4.Since 0 s_2.Day).bind fun r20=>some (.inr (!r20)))) fun u19:Bool=>some (.inr u19))) fun u6:Bool=>bif u6 then (some false) else ((aG c_1.Clauses e4.Clause).bind fun e7=>be (ρ:=Bool) (bif (e4.Due != (ai (e4.Since+e7.Within))) then (some (.inr true)) else ((oY e4.Due).bind fun r14=>cg (ρ:=Bool) (bif (!r14) then (some (.inr true)) else (cg (ρ:=Bool) (bif (decide (i_3>0)) then ((aG s_2.Duties (ai (i_3 - 1))).bind fun e17=>some (.inr (decide (e4.Since<e17.Since)))) else (some (.inr false))) fun u16:Bool=>some (.inr u16))) fun u15:Bool=>some (.inr u15))) fun u8:Bool=>bif u8 then (some false) else ((Mp c_1 e4.Clause).bind fun r9=>be (ρ:=Bool) (bif (!r9) then ((lf s_2.Duties 0 i_3).bind fun s12=>(HV s12 e4).bind fun r13=>some (.inr r13)) else (some (.inr false))) fun u10:Bool=>bif u10 then (some false) else (bif (e4.Status==1) then (cm (bif (decide (e4.Due≥s_2.Day)) then (!s_2.Over) else false) fun u11:Bool=>some u11) else (bif (e4.Status==2) then (some true) else (bif (e4.Status==3) then (some (decide (e4.Due<s_2.Day))) else (bif (e4.Status==4) then (some s_2.Over) else (some false)))))))
def Pf (x_1:Int):Option Bool:=
 (i9 x_1 (-1000000000) 1000000000).bind fun r2=>some r2
def AR (b_1:Int):Option Bool:=
 (Pf b_1).bind fun r2=>some (!r2)
def nF (s_1:List Int)(f_2:Unit)(self:Int→Option (Int⊕Unit))(x3:Int):Option (Int⊕Unit):=
 bif (decide (x3<(len s_1))) then ((aG s_1 x3).bind fun e4=>(AR e4).bind fun r5=>bif r5 then (some (.inl x3)) else (self (ai (x3+1)))) else (some (.inr ()))
def tJ (s_1:List Int)(f_2:Unit): Int→Option (Int⊕Unit):=aL (nF s_1 f_2)
theorem zx (s_1:List Int)(f_2:Unit): ∀a,Fin1 fun f=>nF s_1 f_2 f a:=by
 unfold nF
 repeat first|intro _|exact aY|exact bx|apply bC|apply bg|apply bh|apply bp|apply bD
theorem P7 (s_1:List Int)(f_2:Unit)(x:Int):tJ s_1 f_2 x=nF s_1 f_2 (tJ s_1 f_2) x:=bI (zx s_1 f_2) x
def H4 (s_1:List Int)(f_2:Unit):Option Int:=
 be (ρ:=Int) (tJ s_1 f_2 0) fun u6:Unit=>some (-1)
def HX (s_1:List Int)(f_2:Unit):Option Bool:=
 (H4 s_1 ()).bind fun r3=>some (decide (r3≥0))
def nc (c_1:Contract)(s_2:State)(self:Int→Option (Bool⊕Unit))(x7:Int):Option (Bool⊕Unit):=
 bif (decide (x7<(len s_2.Duties))) then ((Mr c_1 s_2 x7).bind fun r8=>bif (!r8) then (some (.inl false)) else (self (ai (x7+1)))) else (some (.inr ()))
def qb (c_1:Contract)(s_2:State): Int→Option (Bool⊕Unit):=aL (nc c_1 s_2)
theorem GS (c_1:Contract)(s_2:State): ∀a,Fin1 fun f=>nc c_1 s_2 f a:=by
 unfold nc
 repeat first|intro _|exact aY|exact bx|apply bC|apply bg|apply bh|apply bp|apply bD
theorem Ji (c_1:Contract)(s_2:State)(x:Int):qb c_1 s_2 x=nc c_1 s_2 (qb c_1 s_2) x:=bI (GS c_1 s_2) x
def Mt (c_1:Contract)(s_2:State):Option Bool:=
 (xA c_1).bind fun r3=>(oY s_2.Day).bind fun r4=>be (ρ:=Bool) (bif (!r4) then (some (.inr true)) else ((Ms s_2.Facts).bind fun r13=>cg (ρ:=Bool) (bif (!r13) then (some (.inr true)) else ((HY s_2.Facts r3).bind fun r15=>some (.inr r15))) fun u14:Bool=>some (.inr u14))) fun u5:Bool=>bif u5 then (some false) else (be (ρ:=Bool) (bif (decide ((len s_2.Duties)>24)) then (some (.inr true)) else (cg (ρ:=Bool) (bif ((len s_2.Balances) != (len c_1.Parties)) then (some (.inr true)) else ((wv s_2.Balances).bind fun r12=>some (.inr (r12 != 0)))) fun u11:Bool=>some (.inr u11))) fun u6:Bool=>bif u6 then (some false) else (be (ρ:=Bool) (qb c_1 s_2 0) fun u9:Unit=>(HX s_2.Balances ()).bind fun r10=>some (!r10)))
def Jb (c_1:Contract)(s_2:State):Option Bool:=
 (Mf c_1).bind fun r3=>be (ρ:=Bool) (bif r3 then ((Mt c_1 s_2).bind fun r5=>some (.inr r5)) else (some (.inr false))) fun u4:Bool=>some u4
def AN (p_1:Int)(a_2:Contract):Option Bool:=
 (i9 p_1 0 (ai ((len a_2.Parties) - 1))).bind fun r3=>some (!r3)
def nE (s_1:List Int)(f_2:Contract)(self:Int→Option (Int⊕Unit))(x3:Int):Option (Int⊕Unit):=
 bif (decide (x3<(len s_1))) then ((aG s_1 x3).bind fun e4=>(AN e4 f_2).bind fun r5=>bif r5 then (some (.inl x3)) else (self (ai (x3+1)))) else (some (.inr ()))
def tI (s_1:List Int)(f_2:Contract): Int→Option (Int⊕Unit):=aL (nE s_1 f_2)
theorem zw (s_1:List Int)(f_2:Contract): ∀a,Fin1 fun f=>nE s_1 f_2 f a:=by
 unfold nE
 repeat first|intro _|exact aY|exact bx|apply bC|apply bg|apply bh|apply bp|apply bD
theorem P5 (s_1:List Int)(f_2:Contract)(x:Int):tI s_1 f_2 x=nE s_1 f_2 (tI s_1 f_2) x:=bI (zw s_1 f_2) x
def H2 (s_1:List Int)(f_2:Contract):Option Int:=
 be (ρ:=Int) (tI s_1 f_2 0) fun u6:Unit=>some (-1)
def HW (s_1:List Int)(f_2:Contract):Option Bool:=
 (H2 s_1 f_2).bind fun r3=>some (decide (r3≥0))
def AL (c_1:Contract)(s_2:State)(f8:List Int):Option Bool:=
 (Jb c_1 s_2).bind fun r4=>be (ρ:=Bool) (bif r4 then ((HW f8 c_1).bind fun r6=>some (.inr (!r6))) else (some (.inr false))) fun u5:Bool=>some u5
def O3 (d_1:Duty)(x_2:Clause)(a_3:Int)(a_4:Int):Option Bool:=
 cm (bif (x_2.Party==a_3) then (x_2.Other==a_4) else false) fun u5:Bool=>some u5
def K4 (x_1:Int):Option Bool:=
 some (x_1 != x_1)
def K2 (x_1:Int)(y_2:Int):Option Int:=
 (K4 x_1).bind fun r3=>(K4 y_2).bind fun r4=>bif r3 then (bif r4 then (some 0) else (some (-1))) else (bif r4 then (some 1) else (bif (decide (x_1<y_2)) then (some (-1)) else (bif (decide (x_1>y_2)) then (some 1) else (some 0))))
def Aj (i_1:Int)(k_2:Int)(a_3:State):Option Int:=
 (aG a_3.Duties i_1).bind fun e4=>(aG a_3.Duties k_2).bind fun e5=>(K2 e4.Due e5.Due).bind fun r6=>some r6
def kb (cp:List Int)(eF:Int)(eK:Int)(cO:State)(x5:Int×Int×Int×(List Int))(self:(Int×(List Int))→Option ((List Int)⊕(List Int)))(x6:Int×(List Int)):Option ((List Int)⊕(List Int)):=
 cg (ρ:=(List Int)) (bif (decide (x6.1>x5.1)) then ((aG x6.2 x6.1).bind fun e18=>(aG x6.2 (ai (x6.1 - 1))).bind fun e19=>(Aj e18 e19 cO).bind fun r20=>some (.inr (decide (r20<0)))) else (some (.inr false))) fun u7:Bool=>bif u7 then ((aG x6.2 (ai (x6.1 - 1))).bind fun e8=>(aG x6.2 x6.1).bind fun e9=>(aG x6.2 x6.1).bind fun e10=>(aG (dj x6.2 x6.1 e8) (ai (x6.1 - 1))).bind fun e13=>cm (dj (dj x6.2 x6.1 e8) (ai (x6.1 - 1)) e9) fun rw14:List Int=>self ((ai (x6.1 - 1)),rw14)) else (some (.inr x6.2))
def kR (cp:List Int)(eF:Int)(eK:Int)(cO:State)(x5:Int×Int×Int×(List Int)):(Int×(List Int))→Option ((List Int)⊕(List Int)):=aL (kb cp eF eK cO x5)
theorem zB (cp:List Int)(eF:Int)(eK:Int)(cO:State)(x5:Int×Int×Int×(List Int)):∀a,Fin1 fun f=>kb cp eF eK cO x5 f a:=by
 unfold kb
 repeat first|intro _|exact aY|exact bx|apply bC|apply bg|apply bh|apply bp|apply bD
theorem vf (cp:List Int)(eF:Int)(eK:Int)(cO:State)(x5:Int×Int×Int×(List Int))(x:Int×(List Int)):kR cp eF eK cO x5 x=kb cp eF eK cO x5 (kR cp eF eK cO x5) x:=bI (zB cp eF eK cO x5) x
def ka (cp:List Int)(eF:Int)(eK:Int)(cO:State)(self:(Int×Int×Int×(List Int))→Option ((List Int)⊕(List Int)))(x5:Int×Int×Int×(List Int)):Option ((List Int)⊕(List Int)):=
 bif (decide (x5.2.2.1<x5.2.1)) then (cg (ρ:=(List Int)) (kR cp eF eK cO x5 (x5.2.2.1,x5.2.2.2)) fun u21:(List Int)=>self (x5.1,x5.2.1,(ai (x5.2.2.1+1)),u21)) else (some (.inr x5.2.2.2))
def mc (cp:List Int)(eF:Int)(eK:Int)(cO:State): (Int×Int×Int×(List Int))→Option ((List Int)⊕(List Int)):=aL (ka cp eF eK cO)
theorem zA (cp:List Int)(eF:Int)(eK:Int)(cO:State): ∀a,Fin1 fun f=>ka cp eF eK cO f a:=by
 unfold ka
 repeat first|intro _|exact aY|exact bx|apply bC|apply bg|apply bh|apply bp|apply bD
theorem ve (cp:List Int)(eF:Int)(eK:Int)(cO:State)(x:Int×Int×Int×(List Int)):mc cp eF eK cO x=ka cp eF eK cO (mc cp eF eK cO) x:=bI (zA cp eF eK cO) x
def rk (cp:List Int)(eF:Int)(eK:Int)(cO:State):Option (List Int):=
 be (ρ:=(List Int)) (mc cp eF eK cO (eF,eK,(ai (eF+1)),cp)) fun u22:(List Int)=>bif Nat.beq u22.length cp.length then (some u22) else none
def lz (ek:List Int)(eV:Int)(fI:Int)(gS:Int)(fy:State)(self:(Int×(List Int))→Option ((List Int)⊕(List Int)))(x6:Int×(List Int)):Option ((List Int)⊕(List Int)):=
 bif (decide (x6.1<gS)) then ((aG x6.2 (ai (fI+x6.1))).bind fun e7=>(aG x6.2 (ai (eV+x6.1))).bind fun e8=>(aG x6.2 (ai (eV+x6.1))).bind fun e9=>(aG (dj x6.2 (ai (eV+x6.1)) e7) (ai (fI+x6.1))).bind fun e12=>cm (dj (dj x6.2 (ai (eV+x6.1)) e7) (ai (fI+x6.1)) e8) fun rw13:List Int=>self ((ai (x6.1+1)),rw13)) else (some (.inr x6.2))
def md (ek:List Int)(eV:Int)(fI:Int)(gS:Int)(fy:State): (Int×(List Int))→Option ((List Int)⊕(List Int)):=aL (lz ek eV fI gS fy)
theorem zG (ek:List Int)(eV:Int)(fI:Int)(gS:Int)(fy:State): ∀a,Fin1 fun f=>lz ek eV fI gS fy f a:=by
 unfold lz
 repeat first|intro _|exact aY|exact bx|apply bC|apply bg|apply bh|apply bp|apply bD
theorem E9 (ek:List Int)(eV:Int)(fI:Int)(gS:Int)(fy:State)(x:Int×(List Int)):md ek eV fI gS fy x=lz ek eV fI gS fy (md ek eV fI gS fy) x:=bI (zG ek eV fI gS fy) x
def vh (ek:List Int)(eV:Int)(fI:Int)(gS:Int)(fy:State):Option (List Int):=
 be (ρ:=(List Int)) (md ek eV fI gS fy (0,ek)) fun u17:(List Int)=>bif Nat.beq u17.length ek.length then (some u17) else none
def nH (eJ:List Int)(a_9:Int)(eR:Int)(gD:Int)(eb:State)(self:(Int×Int×(List Int))→Option ((List Int)⊕(Int×Int×(List Int))))(x6:Int×Int×(List Int)):Option ((List Int)⊕(Int×Int×(List Int))):=
 bif (x6.1 != x6.2.1) then (cg (ρ:=(List Int)) (bif (decide (x6.1>x6.2.1)) then ((vh x6.2.2 (ai (eR - x6.1)) eR x6.2.1 eb).bind fun r8=>bif Nat.beq r8.length x6.2.2.length then (some (.inr ((ai (x6.1 - x6.2.1)),x6.2.1,r8))) else none) else ((vh x6.2.2 (ai (eR - x6.1)) (ai ((ai (eR+x6.2.1)) - x6.1)) x6.1 eb).bind fun r10=>bif Nat.beq r10.length x6.2.2.length then (some (.inr (x6.1,(ai (x6.2.1 - x6.1)),r10))) else none)) fun u7:Int×Int×(List Int)=>self (u7.1,u7.2.1,u7.2.2)) else (some (.inr (eR,x6.1,x6.2.2)))
def tL (eJ:List Int)(a_9:Int)(eR:Int)(gD:Int)(eb:State): (Int×Int×(List Int))→Option ((List Int)⊕(Int×Int×(List Int))):=aL (nH eJ a_9 eR gD eb)
theorem zC (eJ:List Int)(a_9:Int)(eR:Int)(gD:Int)(eb:State): ∀a,Fin1 fun f=>nH eJ a_9 eR gD eb f a:=by
 unfold nH
 repeat first|intro _|exact aY|exact bx|apply bC|apply bg|apply bh|apply bp|apply bD
theorem P9 (eJ:List Int)(a_9:Int)(eR:Int)(gD:Int)(eb:State)(x:Int×Int×(List Int)):tL eJ a_9 eR gD eb x=nH eJ a_9 eR gD eb (tL eJ a_9 eR gD eb) x:=bI (zC eJ a_9 eR gD eb) x
def wV (eJ:List Int)(a_9:Int)(eR:Int)(gD:Int)(eb:State):Option (List Int):=
 be (ρ:=(List Int)) (tL eJ a_9 eR gD eb ((ai (eR - a_9)),(ai (gD - eR)),eJ)) fun u12:Int×Int×(List Int)=>(vh u12.2.2 (ai (u12.1 - u12.2.1)) u12.1 u12.2.1 eb).bind fun r13=>bif Nat.beq r13.length u12.2.2.length then (bif Nat.beq r13.length eJ.length then (some r13) else none) else none
def jf (az:((List Int)×Int×Int×Int×State)→Option (List Int))(an:List Int)(aR:Int)(aV:Int)(aZ:Int)(aD:State)(self:(Int×Int)→Option ((List Int)⊕(Int×Int×(List Int))))(x6:Int×Int):Option ((List Int)⊕(Int×Int×(List Int))):=
 bif (decide (x6.1<x6.2)) then ((aG an (IntKind.i64.wrap (d6 .u64 (IntKind.u64.wrap (ai (x6.1+x6.2))) 1))).bind fun e7=>(aG an aR).bind fun e8=>(Aj e7 e8 aD).bind fun r9=>cm (bif (decide (r9<0)) then ((ai ((IntKind.i64.wrap (d6 .u64 (IntKind.u64.wrap (ai (x6.1+x6.2))) 1))+1)),x6.2) else (x6.1,(IntKind.i64.wrap (d6 .u64 (IntKind.u64.wrap (ai (x6.1+x6.2))) 1)))) fun u10:Int×Int=>self (u10.1,u10.2)) else (some (.inr (aR,x6.1,an)))
def pf (az:((List Int)×Int×Int×Int×State)→Option (List Int))(an:List Int)(aR:Int)(aV:Int)(aZ:Int)(aD:State): (Int×Int)→Option ((List Int)⊕(Int×Int×(List Int))):=aL (jf az an aR aV aZ aD)
theorem zH (az:((List Int)×Int×Int×Int×State)→Option (List Int))(an:List Int)(aR:Int)(aV:Int)(aZ:Int)(aD:State): ∀a,Fin1 fun f=>jf az an aR aV aZ aD f a:=by
 unfold jf
 repeat first|intro _|exact aY|exact bx|apply bC|apply bg|apply bh|apply bp|apply bD
theorem Fa (az:((List Int)×Int×Int×Int×State)→Option (List Int))(an:List Int)(aR:Int)(aV:Int)(aZ:Int)(aD:State)(x:Int×Int):pf az an aR aV aZ aD x=jf az an aR aV aZ aD (pf az an aR aV aZ aD) x:=bI (zH az an aR aV aZ aD) x
def jg (az:((List Int)×Int×Int×Int×State)→Option (List Int))(an:List Int)(aR:Int)(aV:Int)(aZ:Int)(aD:State)(u11:Int×Int×(List Int))(self:(Int×(List Int))→Option ((List Int)⊕(List Int)))(x12:Int×(List Int)):Option ((List Int)⊕(List Int)):=
 bif (decide (x12.1<(ai (u11.2.1 - 1)))) then ((aG x12.2 (ai (x12.1+1))).bind fun e13=>(aG x12.2 x12.1).bind fun e14=>(aG x12.2 x12.1).bind fun e15=>(aG (dj x12.2 x12.1 e13) (ai (x12.1+1))).bind fun e18=>cm (dj (dj x12.2 x12.1 e13) (ai (x12.1+1)) e14) fun rw19:List Int=>self ((ai (x12.1+1)),rw19)) else (some (.inr x12.2))
def jJ (az:((List Int)×Int×Int×Int×State)→Option (List Int))(an:List Int)(aR:Int)(aV:Int)(aZ:Int)(aD:State)(u11:Int×Int×(List Int)):(Int×(List Int))→Option ((List Int)⊕(List Int)):=aL (jg az an aR aV aZ aD u11)
theorem zI (az:((List Int)×Int×Int×Int×State)→Option (List Int))(an:List Int)(aR:Int)(aV:Int)(aZ:Int)(aD:State)(u11:Int×Int×(List Int)):∀a,Fin1 fun f=>jg az an aR aV aZ aD u11 f a:=by
 unfold jg
 repeat first|intro _|exact aY|exact bx|apply bC|apply bg|apply bh|apply bp|apply bD
theorem Fb (az:((List Int)×Int×Int×Int×State)→Option (List Int))(an:List Int)(aR:Int)(aV:Int)(aZ:Int)(aD:State)(u11:Int×Int×(List Int))(x:Int×(List Int)):jJ az an aR aV aZ aD u11 x=jg az an aR aV aZ aD u11 (jJ az an aR aV aZ aD u11) x:=bI (zI az an aR aV aZ aD u11) x
def jh (az:((List Int)×Int×Int×Int×State)→Option (List Int))(an:List Int)(aR:Int)(aV:Int)(aZ:Int)(aD:State)(self:(Int×Int)→Option ((List Int)⊕(Int×Int×(List Int))))(x25:Int×Int):Option ((List Int)⊕(Int×Int×(List Int))):=
 bif (decide (x25.1<x25.2)) then ((aG an aV).bind fun e26=>(aG an (IntKind.i64.wrap (d6 .u64 (IntKind.u64.wrap (ai (x25.1+x25.2))) 1))).bind fun e27=>(Aj e26 e27 aD).bind fun r28=>cm (bif (!(decide (r28<0))) then ((ai ((IntKind.i64.wrap (d6 .u64 (IntKind.u64.wrap (ai (x25.1+x25.2))) 1))+1)),x25.2) else (x25.1,(IntKind.i64.wrap (d6 .u64 (IntKind.u64.wrap (ai (x25.1+x25.2))) 1)))) fun u29:Int×Int=>self (u29.1,u29.2)) else (some (.inr (aV,x25.1,an)))
def pg (az:((List Int)×Int×Int×Int×State)→Option (List Int))(an:List Int)(aR:Int)(aV:Int)(aZ:Int)(aD:State): (Int×Int)→Option ((List Int)⊕(Int×Int×(List Int))):=aL (jh az an aR aV aZ aD)
theorem zJ (az:((List Int)×Int×Int×Int×State)→Option (List Int))(an:List Int)(aR:Int)(aV:Int)(aZ:Int)(aD:State): ∀a,Fin1 fun f=>jh az an aR aV aZ aD f a:=by
 unfold jh
 repeat first|intro _|exact aY|exact bx|apply bC|apply bg|apply bh|apply bp|apply bD
theorem Fc (az:((List Int)×Int×Int×Int×State)→Option (List Int))(an:List Int)(aR:Int)(aV:Int)(aZ:Int)(aD:State)(x:Int×Int):pg az an aR aV aZ aD x=jh az an aR aV aZ aD (pg az an aR aV aZ aD) x:=bI (zJ az an aR aV aZ aD) x
def ji (az:((List Int)×Int×Int×Int×State)→Option (List Int))(an:List Int)(aR:Int)(aV:Int)(aZ:Int)(aD:State)(u30:Int×Int×(List Int))(self:(Int×(List Int))→Option ((List Int)⊕(List Int)))(x31:Int×(List Int)):Option ((List Int)⊕(List Int)):=
 bif (decide (x31.1>u30.2.1)) then ((aG x31.2 (ai (x31.1 - 1))).bind fun e32=>(aG x31.2 x31.1).bind fun e33=>(aG x31.2 x31.1).bind fun e34=>(aG (dj x31.2 x31.1 e32) (ai (x31.1 - 1))).bind fun e37=>cm (dj (dj x31.2 x31.1 e32) (ai (x31.1 - 1)) e33) fun rw38:List Int=>self ((ai (x31.1 - 1)),rw38)) else (some (.inr x31.2))
def jK (az:((List Int)×Int×Int×Int×State)→Option (List Int))(an:List Int)(aR:Int)(aV:Int)(aZ:Int)(aD:State)(u30:Int×Int×(List Int)):(Int×(List Int))→Option ((List Int)⊕(List Int)):=aL (ji az an aR aV aZ aD u30)
theorem zK (az:((List Int)×Int×Int×Int×State)→Option (List Int))(an:List Int)(aR:Int)(aV:Int)(aZ:Int)(aD:State)(u30:Int×Int×(List Int)):∀a,Fin1 fun f=>ji az an aR aV aZ aD u30 f a:=by
 unfold ji
 repeat first|intro _|exact aY|exact bx|apply bC|apply bg|apply bh|apply bp|apply bD
theorem Fd (az:((List Int)×Int×Int×Int×State)→Option (List Int))(an:List Int)(aR:Int)(aV:Int)(aZ:Int)(aD:State)(u30:Int×Int×(List Int))(x:Int×(List Int)):jK az an aR aV aZ aD u30 x=ji az an aR aV aZ aD u30 (jK az an aR aV aZ aD u30) x:=bI (zK az an aR aV aZ aD u30) x
def kd (az:((List Int)×Int×Int×Int×State)→Option (List Int))(an:List Int)(aR:Int)(aV:Int)(aZ:Int)(aD:State)(self:(Int×Int)→Option ((List Int)⊕(Int×Int×Int×Int)))(x45:Int×Int):Option ((List Int)⊕(Int×Int×Int×Int)):=
 bif (decide (x45.1<x45.2)) then ((aG an (ai ((ai ((ai ((IntKind.i64.wrap (d6 .u64 (IntKind.u64.wrap (ai (aR+aZ))) 1))+aV)) - 1)) - (IntKind.i64.wrap (d6 .u64 (IntKind.u64.wrap (ai (x45.1+x45.2))) 1))))).bind fun e46=>(aG an (IntKind.i64.wrap (d6 .u64 (IntKind.u64.wrap (ai (x45.1+x45.2))) 1))).bind fun e47=>(Aj e46 e47 aD).bind fun r48=>cm (bif (!(decide (r48<0))) then ((ai ((IntKind.i64.wrap (d6 .u64 (IntKind.u64.wrap (ai (x45.1+x45.2))) 1))+1)),x45.2) else (x45.1,(IntKind.i64.wrap (d6 .u64 (IntKind.u64.wrap (ai (x45.1+x45.2))) 1)))) fun u49:Int×Int=>self (u49.1,u49.2)) else (some (.inr (aZ,(IntKind.i64.wrap (d6 .u64 (IntKind.u64.wrap (ai (aR+aZ))) 1)),(ai ((IntKind.i64.wrap (d6 .u64 (IntKind.u64.wrap (ai (aR+aZ))) 1))+aV)),x45.1)))
def qY (az:((List Int)×Int×Int×Int×State)→Option (List Int))(an:List Int)(aR:Int)(aV:Int)(aZ:Int)(aD:State): (Int×Int)→Option ((List Int)⊕(Int×Int×Int×Int)):=aL (kd az an aR aV aZ aD)
theorem zL (az:((List Int)×Int×Int×Int×State)→Option (List Int))(an:List Int)(aR:Int)(aV:Int)(aZ:Int)(aD:State): ∀a,Fin1 fun f=>kd az an aR aV aZ aD f a:=by
 unfold kd
 repeat first|intro _|exact aY|exact bx|apply bC|apply bg|apply bh|apply bp|apply bD
theorem Fe (az:((List Int)×Int×Int×Int×State)→Option (List Int))(an:List Int)(aR:Int)(aV:Int)(aZ:Int)(aD:State)(x:Int×Int):qY az an aR aV aZ aD x=kd az an aR aV aZ aD (qY az an aR aV aZ aD) x:=bI (zL az an aR aV aZ aD) x
def tR (az:((List Int)×Int×Int×Int×State)→Option (List Int))(an:List Int)(aR:Int)(aV:Int)(aZ:Int)(aD:State):Option (List Int):=
 bif ((ai (aV - aR))==1) then (be (ρ:=(List Int)) (pf az an aR aV aZ aD (aV,aZ)) fun u11:Int×Int×(List Int)=>be (ρ:=(List Int)) (jJ az an aR aV aZ aD u11 (u11.1,u11.2.2)) fun u23:(List Int)=>bif Nat.beq u23.length an.length then (some u23) else none) else (bif ((ai (aZ - aV))==1) then (be (ρ:=(List Int)) (pg az an aR aV aZ aD (aR,aV)) fun u30:Int×Int×(List Int)=>be (ρ:=(List Int)) (jK az an aR aV aZ aD u30 (u30.1,u30.2.2)) fun u42:(List Int)=>bif Nat.beq u42.length an.length then (some u42) else none) else (cm (bif (decide (aV>(IntKind.i64.wrap (d6 .u64 (IntKind.u64.wrap (ai (aR+aZ))) 1)))) then ((ai ((ai ((IntKind.i64.wrap (d6 .u64 (IntKind.u64.wrap (ai (aR+aZ))) 1))+aV)) - aZ)),(IntKind.i64.wrap (d6 .u64 (IntKind.u64.wrap (ai (aR+aZ))) 1))) else (aR,aV)) fun u44:Int×Int=>be (ρ:=(List Int)) (qY az an aR aV aZ aD (u44.1,u44.2)) fun u50:Int×Int×Int×Int=>cm (bif (decide (u50.2.2.2<aV)) then (decide (aV<(ai (u50.2.2.1 - u50.2.2.2)))) else false) fun u51:Bool=>be (ρ:=(List Int)) (bif u51 then ((wV an u50.2.2.2 aV (ai (u50.2.2.1 - u50.2.2.2)) aD).bind fun r62=>bif Nat.beq r62.length an.length then (some (.inr r62)) else none) else (some (.inr an))) fun u52:(List Int)=>cm (bif (decide (aR<u50.2.2.2)) then (decide (u50.2.2.2<u50.2.1)) else false) fun u53:Bool=>be (ρ:=(List Int)) (bif u53 then ((az (u52,aR,u50.2.2.2,u50.2.1,aD)).bind fun r60=>bif Nat.beq r60.length u52.length then (some (.inr r60)) else none) else (some (.inr u52))) fun u54:(List Int)=>cm (bif (decide (u50.2.1<(ai (u50.2.2.1 - u50.2.2.2)))) then (decide ((ai (u50.2.2.1 - u50.2.2.2))<u50.1)) else false) fun u55:Bool=>be (ρ:=(List Int)) (bif u55 then ((az (u54,u50.2.1,(ai (u50.2.2.1 - u50.2.2.2)),u50.1,aD)).bind fun r58=>bif Nat.beq r58.length u54.length then (some (.inr r58)) else none) else (some (.inr u54))) fun u56:(List Int)=>bif Nat.beq u56.length an.length then (some u56) else none))
def fB (az:((List Int)×Int×Int×Int×State)→Option (List Int))(x:(List Int)×Int×Int×Int×State):Option (List Int):=tR az x.1 x.2.1 x.2.2.1 x.2.2.2.1 x.2.2.2.2
def H6 (an:List Int)(aR:Int)(aV:Int)(aZ:Int)(aD:State):Option (List Int):=aL fB (an,aR,aV,aZ,aD)
theorem Xk:∀x,Fin1 fun az=>fB az x:=by
 unfold fB tR
 repeat first|intro _|exact aY|exact bx|exact jS|exact mp|exact iQ|exact kt|exact jl|exact jm|apply bC|apply bg|apply bh|apply bp|apply bD|apply qG|unfold pf|unfold jf|unfold jJ|unfold jg|unfold pf|unfold jf|unfold jJ|unfold jg|unfold pg|unfold jh|unfold jK|unfold ji|unfold pg|unfold jh|unfold jK|unfold ji|unfold qY|unfold kd
theorem Z2 (an:List Int)(aR:Int)(aV:Int)(aZ:Int)(aD:State):H6 an aR aV aZ aD=tR (aL fB) an aR aV aZ aD:=bI Xk (an,aR,aV,aZ,aD)
def kc (bU:List Int)(n_7:Int)(b9:State)(self:(Int×Int×(List Int))→Option ((List Int)⊕(Int×Int×(List Int))))(x4:Int×Int×(List Int)):Option ((List Int)⊕(Int×Int×(List Int))):=
 bif (decide (x4.2.1≤n_7)) then ((rk x4.2.2 x4.1 x4.2.1 b9).bind fun r5=>bif Nat.beq r5.length x4.2.2.length then (self (x4.2.1,(ai (x4.2.1+20)),r5)) else none) else (some (.inr (n_7,x4.1,x4.2.2)))
def tN (bU:List Int)(n_7:Int)(b9:State): (Int×Int×(List Int))→Option ((List Int)⊕(Int×Int×(List Int))):=aL (kc bU n_7 b9)
theorem zD (bU:List Int)(n_7:Int)(b9:State): ∀a,Fin1 fun f=>kc bU n_7 b9 f a:=by
 unfold kc
 repeat first|intro _|exact aY|exact bx|apply bC|apply bg|apply bh|apply bp|apply bD
theorem vg (bU:List Int)(n_7:Int)(b9:State)(x:Int×Int×(List Int)):tN bU n_7 b9 x=kc bU n_7 b9 (tN bU n_7 b9) x:=bI (zD bU n_7 b9) x
def nI (bU:List Int)(n_7:Int)(b9:State)(u7:Int×Int×(List Int))(x10:Int×(List Int))(self:(Int×Int×(List Int))→Option ((List Int)⊕(Int×(List Int))))(x11:Int×Int×(List Int)):Option ((List Int)⊕(Int×(List Int))):=
 bif (decide (x11.2.1≤u7.1)) then ((H6 x11.2.2 x11.1 (ai (x11.1+x10.1)) x11.2.1 b9).bind fun r12=>bif Nat.beq r12.length x11.2.2.length then (self (x11.2.1,(ai (x11.2.1+(ai (2*x10.1)))),r12)) else none) else (some (.inr (x11.1,x11.2.2)))
def tQ (bU:List Int)(n_7:Int)(b9:State)(u7:Int×Int×(List Int))(x10:Int×(List Int)):(Int×Int×(List Int))→Option ((List Int)⊕(Int×(List Int))):=aL (nI bU n_7 b9 u7 x10)
theorem zF (bU:List Int)(n_7:Int)(b9:State)(u7:Int×Int×(List Int))(x10:Int×(List Int)):∀a,Fin1 fun f=>nI bU n_7 b9 u7 x10 f a:=by
 unfold nI
 repeat first|intro _|exact aY|exact bx|apply bC|apply bg|apply bh|apply bp|apply bD
theorem Qa (bU:List Int)(n_7:Int)(b9:State)(u7:Int×Int×(List Int))(x10:Int×(List Int))(x:Int×Int×(List Int)):tQ bU n_7 b9 u7 x10 x=nI bU n_7 b9 u7 x10 (tQ bU n_7 b9 u7 x10) x:=bI (zF bU n_7 b9 u7 x10) x
def je (bU:List Int)(n_7:Int)(b9:State)(u7:Int×Int×(List Int))(self:(Int×(List Int))→Option ((List Int)⊕(List Int)))(x10:Int×(List Int)):Option ((List Int)⊕(List Int)):=
 bif (decide (x10.1<u7.1)) then (cg (ρ:=(List Int)) (tQ bU n_7 b9 u7 x10 (0,(ai (2*x10.1)),x10.2)) fun u14:Int×(List Int)=>cg (ρ:=(List Int)) (bif (decide ((ai (u14.1+x10.1))<u7.1)) then ((H6 u14.2 u14.1 (ai (u14.1+x10.1)) u7.1 b9).bind fun r16=>bif Nat.beq r16.length u14.2.length then (some (.inr r16)) else none) else (some (.inr u14.2))) fun u15:(List Int)=>self ((ai (x10.1*2)),u15)) else (some (.inr x10.2))
def tP (bU:List Int)(n_7:Int)(b9:State)(u7:Int×Int×(List Int)):(Int×(List Int))→Option ((List Int)⊕(List Int)):=aL (je bU n_7 b9 u7)
theorem zE (bU:List Int)(n_7:Int)(b9:State)(u7:Int×Int×(List Int)):∀a,Fin1 fun f=>je bU n_7 b9 u7 f a:=by
 unfold je
 repeat first|intro _|exact aY|exact bx|apply bC|apply bg|apply bh|apply bp|apply bD
theorem qz (bU:List Int)(n_7:Int)(b9:State)(u7:Int×Int×(List Int))(x:Int×(List Int)):tP bU n_7 b9 u7 x=je bU n_7 b9 u7 (tP bU n_7 b9 u7) x:=bI (zE bU n_7 b9 u7) x
def B5 (bU:List Int)(n_7:Int)(b9:State):Option (List Int):=
 be (ρ:=(List Int)) (tN bU n_7 b9 (0,20,bU)) fun u7:Int×Int×(List Int)=>(rk u7.2.2 u7.2.1 u7.1 b9).bind fun r8=>bif Nat.beq r8.length u7.2.2.length then (be (ρ:=(List Int)) (tP bU n_7 b9 u7 (20,r8)) fun u18:(List Int)=>bif Nat.beq u18.length bU.length then (some u18) else none) else none
def vd (x_3:List Int)(pL:State):Option (List Int):=
 (B5 x_3 (len x_3) pL).bind fun r3=>bif Nat.beq r3.length x_3.length then (bif Nat.beq r3.length x_3.length then (some r3) else none) else none
def mY (c_1:Contract)(s_2:State)(di:Int×Int)(self:(Int×(List Int))→Option ((List Int)⊕(List Int)))(x4:Int×(List Int)):Option ((List Int)⊕(List Int)):=
 bif (decide (x4.1<(len s_2.Duties))) then ((aG s_2.Duties x4.1).bind fun e5=>cg (ρ:=(List Int)) (bif (e5.Status==1) then ((aG c_1.Clauses e5.Clause).bind fun e9=>(O3 e5 e9 di.1 di.2).bind fun r10=>some (.inr r10)) else (some (.inr false))) fun u6:Bool=>cg (ρ:=(List Int)) (bif u6 then ((iM 8 x4.2 [x4.1]).bind fun a8=>some (.inr a8)) else (some (.inr x4.2))) fun u7:(List Int)=>self ((ai (x4.1+1)),u7)) else (some (.inr x4.2))
def pZ (c_1:Contract)(s_2:State)(di:Int×Int): (Int×(List Int))→Option ((List Int)⊕(List Int)):=aL (mY c_1 s_2 di)
theorem GN (c_1:Contract)(s_2:State)(di:Int×Int): ∀a,Fin1 fun f=>mY c_1 s_2 di f a:=by
 unfold mY
 repeat first|intro _|exact aY|exact bx|apply bC|apply bg|apply bh|apply bp|apply bD
theorem Jf (c_1:Contract)(s_2:State)(di:Int×Int)(x:Int×(List Int)):pZ c_1 s_2 di x=mY c_1 s_2 di (pZ c_1 s_2 di) x:=bI (GN c_1 s_2 di) x
def Mk (c_1:Contract)(s_2:State)(di:Int×Int):Option (List Int):=
 be (ρ:=(List Int)) (pZ c_1 s_2 di (0,[])) fun u11:(List Int)=>(vd u11 s_2).bind fun r12=>bif Nat.beq r12.length u11.length then (some r12) else none
def vu (c_1:Contract)(s_2:State)(d4:List Int)(self:(Int×Int)→Option (Int⊕Int))(x4:Int×Int):Option (Int⊕Int):=
 bif (decide (x4.2<(len d4))) then ((aG d4 x4.2).bind fun e5=>(aG s_2.Duties e5).bind fun e6=>(aG c_1.Clauses e6.Clause).bind fun e7=>self ((ai (x4.1+e7.Amount)),(ai (x4.2+1)))) else (some (.inr x4.1))
def Mh (c_1:Contract)(s_2:State)(d4:List Int): (Int×Int)→Option (Int⊕Int):=aL (vu c_1 s_2 d4)
theorem Qo (c_1:Contract)(s_2:State)(d4:List Int): ∀a,Fin1 fun f=>vu c_1 s_2 d4 f a:=by
 unfold vu
 repeat first|intro _|exact aY|exact bx|apply bC|apply bg|apply bh|apply bp|apply bD
def Mg (c_1:Contract)(s_2:State)(d4:List Int):Option Int:=
 be (ρ:=Int) (Mh c_1 s_2 d4 (0,0)) fun u8:Int=>some u8
def Ll (c_1:Contract)(s_2:State)(bK:Int)(cJ:Int):Option (Int×Bool):=
 (AL c_1 s_2 [bK,cJ]).bind fun r5=>bif (!r5) then (some (0,false)) else ((Mk c_1 s_2 (bK,cJ)).bind fun r6=>(Mg c_1 s_2 r6).bind fun r7=>some (r7,true))
def nq (a_1:List ac)(b_2:List ac)(self:Int→Option (Bool⊕Unit))(x3:Int):Option (Bool⊕Unit):=
 bif (decide (x3<(len a_1))) then ((aG a_1 x3).bind fun e4=>(aG b_2 x3).bind fun e5=>bif (!(e4==e5)) then (some (.inl false)) else (self (ai (x3+1)))) else (some (.inr ()))
def tv (a_1:List ac)(b_2:List ac): Int→Option (Bool⊕Unit):=aL (nq a_1 b_2)
theorem zg (a_1:List ac)(b_2:List ac): ∀a,Fin1 fun f=>nq a_1 b_2 f a:=by
 unfold nq
 repeat first|intro _|exact aY|exact bx|apply bC|apply bg|apply bh|apply bp|apply bD
theorem PT (a_1:List ac)(b_2:List ac)(x:Int):tv a_1 b_2 x=nq a_1 b_2 (tv a_1 b_2) x:=bI (zg a_1 b_2) x
def wB (a_1:List ac)(b_2:List ac):Option Bool:=
 bif ((len a_1) != (len b_2)) then (some false) else (be (ρ:=Bool) (tv a_1 b_2 0) fun u6:Unit=>some true)
def lr (bq:(Condition×Condition)→Option Bool)(a_1:List Condition)(b_2:List Condition)(self:Int→Option (Bool⊕Unit))(x3:Int):Option (Bool⊕Unit):=
 bif (decide (x3<(len a_1))) then ((aG a_1 x3).bind fun e4=>(aG b_2 x3).bind fun e5=>(bq (e4,e5)).bind fun r6=>bif (!r6) then (some (.inl false)) else (self (ai (x3+1)))) else (some (.inr ()))
def qT (bq:(Condition×Condition)→Option Bool)(a_1:List Condition)(b_2:List Condition): Int→Option (Bool⊕Unit):=aL (lr bq a_1 b_2)
theorem zd (bq:(Condition×Condition)→Option Bool)(a_1:List Condition)(b_2:List Condition): ∀a,Fin1 fun f=>lr bq a_1 b_2 f a:=by
 unfold lr
 repeat first|intro _|exact aY|exact bx|apply bC|apply bg|apply bh|apply bp|apply bD
theorem PQ (bq:(Condition×Condition)→Option Bool)(a_1:List Condition)(b_2:List Condition)(x:Int):qT bq a_1 b_2 x=lr bq a_1 b_2 (qT bq a_1 b_2) x:=bI (zd bq a_1 b_2) x
def wz (bq:(Condition×Condition)→Option Bool)(a_1:List Condition)(b_2:List Condition):Option Bool:=
 bif ((len a_1) != (len b_2)) then (some false) else (be (ρ:=Bool) (qT bq a_1 b_2 0) fun u7:Unit=>some true)
def tq (bq:(Condition×Condition)→Option Bool)(a_1:Condition)(b_2:Condition):Option Bool:=
 bif (a_1.Op != b_2.Op) then (some false) else (bif (!(a_1.Name==b_2.Name)) then (some false) else (bif (a_1.Day != b_2.Day) then (some false) else ((wz bq a_1.Parts b_2.Parts).bind fun r3=>bif (!r3) then (some false) else (some true))))
def pU (bq:(Condition×Condition)→Option Bool)(x:Condition×Condition):Option Bool:=tq bq x.1 x.2
def A8 (a_1:Condition)(b_2:Condition):Option Bool:=aL pU (a_1,b_2)
theorem Wt:∀x,Fin1 fun bq=>pU bq x:=by
 unfold pU tq
 repeat first|intro _|exact aY|exact bx|exact jS|exact mp|exact iQ|exact kt|exact jl|exact jm|apply bC|apply bg|apply bh|apply bp|apply bD|apply qG|unfold wz|unfold qT|unfold lr
theorem ZW (a_1:Condition)(b_2:Condition):A8 a_1 b_2=tq (aL pU) a_1 b_2:=bI Wt (a_1,b_2)
def ww (a_1:Clause)(b_2:Clause):Option Bool:=
 bif (!(a_1.Id==b_2.Id)) then (some false) else (bif (a_1.Kind != b_2.Kind) then (some false) else (bif (a_1.Party != b_2.Party) then (some false) else (bif (!(a_1.Action==b_2.Action)) then (some false) else (bif (a_1.Other != b_2.Other) then (some false) else (bif (a_1.Amount != b_2.Amount) then (some false) else ((A8 a_1.When b_2.When).bind fun r3=>bif (!r3) then (some false) else (bif (a_1.Within != b_2.Within) then (some false) else (bif (!(a_1.Repair==b_2.Repair)) then (some false) else (some true)))))))))
def nm (a_1:List Clause)(b_2:List Clause)(self:Int→Option (Bool⊕Unit))(x3:Int):Option (Bool⊕Unit):=
 bif (decide (x3<(len a_1))) then ((aG a_1 x3).bind fun e4=>(aG b_2 x3).bind fun e5=>(ww e4 e5).bind fun r6=>bif (!r6) then (some (.inl false)) else (self (ai (x3+1)))) else (some (.inr ()))
def tp (a_1:List Clause)(b_2:List Clause): Int→Option (Bool⊕Unit):=aL (nm a_1 b_2)
theorem zc (a_1:List Clause)(b_2:List Clause): ∀a,Fin1 fun f=>nm a_1 b_2 f a:=by
 unfold nm
 repeat first|intro _|exact aY|exact bx|apply bC|apply bg|apply bh|apply bp|apply bD
theorem PP (a_1:List Clause)(b_2:List Clause)(x:Int):tp a_1 b_2 x=nm a_1 b_2 (tp a_1 b_2) x:=bI (zc a_1 b_2) x
def A6 (a_1:List Clause)(b_2:List Clause):Option Bool:=
 bif ((len a_1) != (len b_2)) then (some false) else (be (ρ:=Bool) (tp a_1 b_2 0) fun u7:Unit=>some true)
def Bb (a_1:Contract)(b_2:Contract):Option Bool:=
 (wB a_1.Parties b_2.Parties).bind fun r3=>bif (!r3) then (some false) else ((A6 a_1.Clauses b_2.Clauses).bind fun r4=>bif (!r4) then (some false) else (some true))
def wA (a_1:Duty)(b_2:Duty):Option Bool:=
 bif (a_1.Clause != b_2.Clause) then (some false) else (bif (a_1.Since != b_2.Since) then (some false) else (bif (a_1.Due != b_2.Due) then (some false) else (bif (a_1.Status != b_2.Status) then (some false) else (some true))))
def no (a_1:List Duty)(b_2:List Duty)(self:Int→Option (Bool⊕Unit))(x3:Int):Option (Bool⊕Unit):=
 bif (decide (x3<(len a_1))) then ((aG a_1 x3).bind fun e4=>(aG b_2 x3).bind fun e5=>(wA e4 e5).bind fun r6=>bif (!r6) then (some (.inl false)) else (self (ai (x3+1)))) else (some (.inr ()))
def tt (a_1:List Duty)(b_2:List Duty): Int→Option (Bool⊕Unit):=aL (no a_1 b_2)
theorem ze (a_1:List Duty)(b_2:List Duty): ∀a,Fin1 fun f=>no a_1 b_2 f a:=by
 unfold no
 repeat first|intro _|exact aY|exact bx|apply bC|apply bg|apply bh|apply bp|apply bD
theorem PR (a_1:List Duty)(b_2:List Duty)(x:Int):tt a_1 b_2 x=no a_1 b_2 (tt a_1 b_2) x:=bI (ze a_1 b_2) x
def Be (a_1:List Duty)(b_2:List Duty):Option Bool:=
 bif ((len a_1) != (len b_2)) then (some false) else (be (ρ:=Bool) (tt a_1 b_2 0) fun u7:Unit=>some true)
def np (a_1:List Int)(b_2:List Int)(self:Int→Option (Bool⊕Unit))(x3:Int):Option (Bool⊕Unit):=
 bif (decide (x3<(len a_1))) then ((aG a_1 x3).bind fun e4=>(aG b_2 x3).bind fun e5=>bif (e4 != e5) then (some (.inl false)) else (self (ai (x3+1)))) else (some (.inr ()))
def tu (a_1:List Int)(b_2:List Int): Int→Option (Bool⊕Unit):=aL (np a_1 b_2)
theorem zf (a_1:List Int)(b_2:List Int): ∀a,Fin1 fun f=>np a_1 b_2 f a:=by
 unfold np
 repeat first|intro _|exact aY|exact bx|apply bC|apply bg|apply bh|apply bp|apply bD
theorem PS (a_1:List Int)(b_2:List Int)(x:Int):tu a_1 b_2 x=np a_1 b_2 (tu a_1 b_2) x:=bI (zf a_1 b_2) x
def Bg (a_1:List Int)(b_2:List Int):Option Bool:=
 bif ((len a_1) != (len b_2)) then (some false) else (be (ρ:=Bool) (tu a_1 b_2 0) fun u6:Unit=>some true)
def Bi (a_1:State)(b_2:State):Option Bool:=
 bif (a_1.Day != b_2.Day) then (some false) else ((wB a_1.Facts b_2.Facts).bind fun r3=>bif (!r3) then (some false) else ((Be a_1.Duties b_2.Duties).bind fun r4=>bif (!r4) then (some false) else ((Bg a_1.Balances b_2.Balances).bind fun r5=>bif (!r5) then (some false) else (bif (!(a_1.Over==b_2.Over)) then (some false) else (some true)))))
def fp (kq:Contract)(kr:State)(iC:Int)(mm:Int):Option Bool:=
 (Bp kq 1048576).bind fun r5=>bif (decide (r5<0)) then (some true) else ((Bv kr r5).bind fun r6=>bif (decide (r6<0)) then (some true) else ((va kq).bind fun r7=>(vb kr).bind fun r8=>(B9 r7 r8 iC mm).bind fun r9=>(va kq).bind fun r10=>(vb kr).bind fun r11=>(Ll r10 r11 iC mm).bind fun r12=>cm (bif (r12.1 != r9.1) then true else (!(r12.2==r9.2))) fun u13:Bool=>bif u13 then (some false) else ((va kq).bind fun r14=>(Bb r10 r14).bind fun r15=>bif (!r15) then (some false) else ((vb kr).bind fun r16=>(Bi r11 r16).bind fun r17=>bif (!r17) then (some false) else (some true)))))
end
end Go.Ln
