/-
  What each function computes.
-/
import Derived.Test.YtdgacehhaienbaaGreatDoorFnExactNextDeadlineLnC
set_option maxHeartbeats 4000000
set_option linter.unusedVariables false
set_option linter.unusedSimpArgs false
set_option maxRecDepth 100000
namespace Go.Ln
open Go
noncomputable section
structure Condition where
 Op:Int
 Name:ac
 Day:Int
 Parts:List Condition
mutual
def aE:Condition→V
 | ⟨a0,a1,a2,a3⟩=>.agg [I a0,str a1,I a2,.isl false (dC a3)]
def dC:List Condition→List V
 | []=>[]
 | x::xs=>aE x::dC xs
end
theorem oH:∀xs,dC xs=xs.map aE
 | []=>by simp[dC]
 | x::xs=>by simp[dC,oH xs]
def bB (x:Condition):V:=.agg [I x.Op,str x.Name,I x.Day,.isl false (x.Parts.map aE)]
abbrev ao (x:Condition):V:=.agg [I x.Op,str x.Name,I x.Day,.isl false (x.Parts.map aE)]
theorem dm (x:Condition):aE x=bB x:=by cases x;simp only[aE,bB,oH]
mutual
theorem fu:∀(a b:Condition),aE a=aE b→a=b
 | ⟨a0,a1,a2,a3⟩,⟨b0,b1,b2,b3⟩,h=>by
  simp only[aE] at h
  have k0:=V.agg.inj h
  obtain⟨h0,k1⟩:=List.cons.inj k0
  obtain rfl:=bG a0 b0 h0
  obtain⟨h1,k2⟩:=List.cons.inj k1
  obtain rfl:=bQ a1 b1 h1
  obtain⟨h2,k3⟩:=List.cons.inj k2
  obtain rfl:=bG a2 b2 h2
  obtain⟨h3,k4⟩:=List.cons.inj k3
  have e3:dC a3=dC b3:=by simpa using h3
  obtain rfl:=oG a3 b3 e3
  rfl
theorem oG:∀(a b:List Condition),dC a=dC b→a=b
 | [],[],_=>rfl
 | [],_::_,h=>by simp[dC] at h
 | _::_,[],h=>by simp[dC] at h
 | x::xs,y::ys,h=>by
  simp only[dC,List.cons.injEq] at h
  rw[fu x y h.1,oG xs ys h.2]
end
theorem dt (a b:Condition)(h:bB a=bB b):a=b:=fu a b (by rw[dm,dm,h])
mutual
def aC:Condition→V
 | ⟨a0,a1,a2,a3⟩=>.agg [I a0,str a1,I a2,.usl 4 (cN a3)]
def cN:List Condition→List V
 | []=>[]
 | x::xs=>aC x::cN xs
end
theorem oK:∀xs,cN xs=xs.map aC
 | []=>by simp[cN]
 | x::xs=>by simp[cN,oK xs]
def rX (x:Condition):V:=.agg [I x.Op,str x.Name,I x.Day,.usl 4 (x.Parts.map aC)]
abbrev qa (x:Condition):V:=.agg [I x.Op,str x.Name,I x.Day,.usl 4 (x.Parts.map aC)]
theorem mg (x:Condition):aC x=rX x:=by cases x;simp only[aC,rX,oK]
mutual
theorem xn:∀(a b:Condition),aC a=aC b→a=b
 | ⟨a0,a1,a2,a3⟩,⟨b0,b1,b2,b3⟩,h=>by
  simp only[aC] at h
  have k0:=V.agg.inj h
  obtain⟨h0,k1⟩:=List.cons.inj k0
  obtain rfl:=bG a0 b0 h0
  obtain⟨h1,k2⟩:=List.cons.inj k1
  obtain rfl:=bQ a1 b1 h1
  obtain⟨h2,k3⟩:=List.cons.inj k2
  obtain rfl:=bG a2 b2 h2
  obtain⟨h3,k4⟩:=List.cons.inj k3
  have e3:cN a3=cN b3:=by simpa using h3
  obtain rfl:=oJ a3 b3 e3
  rfl
theorem oJ:∀(a b:List Condition),cN a=cN b→a=b
 | [],[],_=>rfl
 | [],_::_,h=>by simp[cN] at h
 | _::_,[],h=>by simp[cN] at h
 | x::xs,y::ys,h=>by
  simp only[cN,List.cons.injEq] at h
  rw[xn x y h.1,oJ xs ys h.2]
end
mutual
theorem pN:∀x:Condition,eo (aC x)=aE x
 | ⟨a0,a1,a2,a3⟩=>by simp[aC,aE,eo,fE,str,oI]
theorem oI:∀xs:List Condition,fE (cN xs)=dC xs
 | []=>by simp[cN,dC,fE]
 | x::xs=>by simp[cN,dC,fE,pN x,oI xs]
end
mutual
theorem vY:∀x:Condition,cW (aC x)=false
 | ⟨a0,a1,a2,a3⟩=>by simp[aC,cW,dP,str,nY]
theorem nY:∀xs:List Condition,dP (cN xs)=false
 | []=>by simp[cN,dP]
 | x::xs=>by simp[cN,dP,vY x,nY xs]
end
structure Clause where
 Id:ac
 Kind:Int
 Party:Int
 Action:ac
 Other:Int
 Amount:Int
 When:Condition
 Within:Int
 Repair:ac
def au (x:Clause):V:=.agg [str x.Id,I x.Kind,I x.Party,str x.Action,I x.Other,I x.Amount,I x.When.Op,str x.When.Name,I x.When.Day,.isl false (x.When.Parts.map aE),I x.Within,str x.Repair]
abbrev az (x:Clause):V:=.agg [str x.Id,I x.Kind,I x.Party,str x.Action,I x.Other,I x.Amount,I x.When.Op,str x.When.Name,I x.When.Day,.isl false (x.When.Parts.map aE),I x.Within,str x.Repair]
theorem dB (a b:Clause)(h:au a=au b):a=b:=by
 obtain⟨p0,p1,p2,p3,p4,p5,⟨p6,p7,p8,p9⟩,p10,p11⟩:=a
 obtain⟨q0,q1,q2,q3,q4,q5,⟨q6,q7,q8,q9⟩,q10,q11⟩:=b
 replace h:=V.agg.inj h
 obtain⟨h0,h⟩:=List.cons.inj h
 obtain rfl:=bQ p0 q0 h0
 obtain⟨h1,h⟩:=List.cons.inj h
 obtain rfl:=bG p1 q1 h1
 obtain⟨h2,h⟩:=List.cons.inj h
 obtain rfl:=bG p2 q2 h2
 obtain⟨h3,h⟩:=List.cons.inj h
 obtain rfl:=bQ p3 q3 h3
 obtain⟨h4,h⟩:=List.cons.inj h
 obtain rfl:=bG p4 q4 h4
 obtain⟨h5,h⟩:=List.cons.inj h
 obtain rfl:=bG p5 q5 h5
 obtain⟨h6,h⟩:=List.cons.inj h
 obtain rfl:=bG p6 q6 h6
 obtain⟨h7,h⟩:=List.cons.inj h
 obtain rfl:=bQ p7 q7 h7
 obtain⟨h8,h⟩:=List.cons.inj h
 obtain rfl:=bG p8 q8 h8
 obtain⟨h9,h⟩:=List.cons.inj h
 obtain rfl:=(ce fu) p9 q9 h9
 obtain⟨h10,h⟩:=List.cons.inj h
 obtain rfl:=bG p10 q10 h10
 obtain⟨h11,h⟩:=List.cons.inj h
 obtain rfl:=bQ p11 q11 h11
 rfl
def ba (x:Clause):V:=.agg [str x.Id,I x.Kind,I x.Party,str x.Action,I x.Other,I x.Amount,I x.When.Op,str x.When.Name,I x.When.Day,.usl 4 (x.When.Parts.map aC),I x.Within,str x.Repair]
abbrev uA (x:Clause):V:=.agg [str x.Id,I x.Kind,I x.Party,str x.Action,I x.Other,I x.Amount,I x.When.Op,str x.When.Name,I x.When.Day,.usl 4 (x.When.Parts.map aC),I x.Within,str x.Repair]
theorem ge (x:Clause):eo (ba x)=au x:=ac5 (kA rfl (kA rfl (kA rfl (kA rfl (kA rfl (kA rfl (kA rfl (kA rfl (kA rfl (kA (X9 (cG pN)) (kA rfl (kA rfl rfl))))))))))))
structure Contract where
 Parties:List ac
 Clauses:List Clause
def aX (x:Contract):V:=.agg [.isl false (x.Parties.map str),.isl false (x.Clauses.map au)]
abbrev aa (x:Contract):V:=.agg [.isl false (x.Parties.map str),.isl false (x.Clauses.map au)]
theorem bn (a b:Contract)(h:aX a=aX b):a=b:=by
 obtain⟨p0,p1⟩:=a
 obtain⟨q0,q1⟩:=b
 replace h:=V.agg.inj h
 obtain⟨h0,h⟩:=List.cons.inj h
 obtain rfl:=(ce bQ) p0 q0 h0
 obtain⟨h1,h⟩:=List.cons.inj h
 obtain rfl:=(ce dB) p1 q1 h1
 rfl
structure Duty where
 Clause:Int
 Since:Int
 Due:Int
 Status:Int
def ah (x:Duty):V:=.agg [I x.Clause,I x.Since,I x.Due,I x.Status]
abbrev acd (x:Duty):V:=.agg [I x.Clause,I x.Since,I x.Due,I x.Status]
theorem HK (x:Duty):(cells (ah x)).length=4∧(cells (ah x)).all fg=true:=⟨rfl,rfl⟩
theorem iA (x:Duty):eo (ah x)=ah x:=rfl
theorem eh (a b:Duty)(h:ah a=ah b):a=b:=by
 obtain⟨p0,p1,p2,p3⟩:=a
 obtain⟨q0,q1,q2,q3⟩:=b
 replace h:=V.agg.inj h
 obtain⟨h0,h⟩:=List.cons.inj h
 obtain rfl:=bG p0 q0 h0
 obtain⟨h1,h⟩:=List.cons.inj h
 obtain rfl:=bG p1 q1 h1
 obtain⟨h2,h⟩:=List.cons.inj h
 obtain rfl:=bG p2 q2 h2
 obtain⟨h3,h⟩:=List.cons.inj h
 obtain rfl:=bG p3 q3 h3
 rfl
structure State where
 Day:Int
 Facts:List ac
 Duties:List Duty
 Balances:List Int
 Over:Bool
def bK (x:State):V:=.agg [I x.Day,.isl false (x.Facts.map str),.isl false (x.Duties.map ah),.isl false (x.Balances.map I),B x.Over]
abbrev ae (x:State):V:=.agg [I x.Day,.isl false (x.Facts.map str),.isl false (x.Duties.map ah),.isl false (x.Balances.map I),B x.Over]
theorem cd (a b:State)(h:bK a=bK b):a=b:=by
 obtain⟨p0,p1,p2,p3,p4⟩:=a
 obtain⟨q0,q1,q2,q3,q4⟩:=b
 replace h:=V.agg.inj h
 obtain⟨h0,h⟩:=List.cons.inj h
 obtain rfl:=bG p0 q0 h0
 obtain⟨h1,h⟩:=List.cons.inj h
 obtain rfl:=(ce bQ) p1 q1 h1
 obtain⟨h2,h⟩:=List.cons.inj h
 obtain rfl:=(ce eh) p2 q2 h2
 obtain⟨h3,h⟩:=List.cons.inj h
 obtain rfl:=(ce bG) p3 q3 h3
 obtain⟨h4,h⟩:=List.cons.inj h
 obtain rfl:=ace p4 q4 h4
 rfl
mutual
def oO:Condition→Prop
 | ⟨a0,a1,a2,a3⟩=>pM a0∧GA a1∧pM a2∧(a3.length≤maxLen∧Kx a3)
def Kx:List Condition→Prop
 | []=>True
 | x::xs=>oO x∧Kx xs
end
theorem Ky:∀xs,Kx xs↔∀x∈xs,oO x
 | []=>by simp[Kx]
 | x::xs=>by simp[Kx,Ky xs]
theorem Kw (x:Condition):oO x↔pM x.Op∧GA x.Name∧pM x.Day∧sh oO x.Parts:=by cases x;simp only[oO,Ky,sh]
def si (x:Clause):Prop:=GA x.Id∧pM x.Kind∧pM x.Party∧GA x.Action∧pM x.Other∧pM x.Amount∧oO x.When∧pM x.Within∧GA x.Repair
def Vs (x:Contract):Prop:=(sh GA) x.Parties∧(sh si) x.Clauses
def HT (x:Duty):Prop:=pM x.Clause∧pM x.Since∧pM x.Due∧pM x.Status
def Cw (x:State):Prop:=pM x.Day∧(sh GA) x.Facts∧(sh HT) x.Duties∧(sh pM) x.Balances∧okB x.Over
def mS (a_1:List ac)(ar:Int)(self:(Int×Int)→Option (Int⊕Int))(x3:Int×Int):Option (Int⊕Int):=
 bif (decide (x3.2<(len a_1))) then ((aF a_1 x3.2).bind fun e4=>bif (decide ((ai (x3.1 - (len e4)))<0)) then (some (.inl (-1))) else (self ((ai (x3.1 - (len e4))),(ai (x3.2+1))))) else (some (.inr x3.1))
def sZ (a_1:List ac)(ar:Int): (Int×Int)→Option (Int⊕Int):=aK (mS a_1 ar)
theorem yN (a_1:List ac)(ar:Int): ∀a,Fin1 fun f=>mS a_1 ar f a:=by
 unfold mS
 repeat first|intro _|exact aY|exact bx|apply bD|apply bh|apply bi|apply bo|apply bE
theorem OS (a_1:List ac)(ar:Int)(x:Int×Int):sZ a_1 ar x=mS a_1 ar (sZ a_1 ar) x:=bH (yN a_1 ar) x
def wi (a_1:List ac)(ar:Int):Option Int:=
 bif (decide ((ai (ar - (len a_1)))<0)) then (some (-1)) else (bf (ρ:=Int) (sZ a_1 ar ((ai (ar - (len a_1))),0)) fun u5:Int=>some u5)
def lb (bq:(Condition×Int)→Option Int)(a_1:List Condition)(ar:Int)(self:(Int×Int)→Option (Int⊕Int))(x3:Int×Int):Option (Int⊕Int):=
 bif (decide (x3.2<(len a_1))) then ((aF a_1 x3.2).bind fun e4=>(bq (e4,x3.1)).bind fun r5=>bif (decide (r5<0)) then (some (.inl (-1))) else (self (r5,(ai (x3.2+1))))) else (some (.inr x3.1))
def qH (bq:(Condition×Int)→Option Int)(a_1:List Condition)(ar:Int): (Int×Int)→Option (Int⊕Int):=aK (lb bq a_1 ar)
theorem yM (bq:(Condition×Int)→Option Int)(a_1:List Condition)(ar:Int): ∀a,Fin1 fun f=>lb bq a_1 ar f a:=by
 unfold lb
 repeat first|intro _|exact aY|exact bx|apply bD|apply bh|apply bi|apply bo|apply bE
theorem OQ (bq:(Condition×Int)→Option Int)(a_1:List Condition)(ar:Int)(x:Int×Int):qH bq a_1 ar x=lb bq a_1 ar (qH bq a_1 ar) x:=bH (yM bq a_1 ar) x
def wh (bq:(Condition×Int)→Option Int)(a_1:List Condition)(ar:Int):Option Int:=
 bif (decide ((ai (ar - (len a_1)))<0)) then (some (-1)) else (bf (ρ:=Int) (qH bq a_1 ar ((ai (ar - (len a_1))),0)) fun u6:Int=>some u6)
def sY (bq:(Condition×Int)→Option Int)(a_1:Condition)(ar:Int):Option Int:=
 bif (decide ((ai (ar - (len a_1.Name)))<0)) then (some (-1)) else ((wh bq a_1.Parts (ai (ar - (len a_1.Name)))).bind fun r3=>bif (decide (r3<0)) then (some (-1)) else (some r3))
def pF (bq:(Condition×Int)→Option Int)(x:Condition×Int):Option Int:=sY bq x.1 x.2
def wd (a_1:Condition)(ar:Int):Option Int:=aK pF (a_1,ar)
theorem U8:∀x,Fin1 fun bq=>pF bq x:=by
 unfold pF sY
 repeat first|intro _|exact aY|exact bx|exact jF|exact l4|exact iC|exact kg|exact i6|exact i7|apply bD|apply bh|apply bi|apply bo|apply bE|apply qs|unfold wh|unfold qH|unfold lb
theorem Yj (a_1:Condition)(ar:Int):wd a_1 ar=sY (aK pF) a_1 ar:=bH U8 (a_1,ar)
def uE (a_1:Clause)(ar:Int):Option Int:=
 bif (decide ((ai (ar - (len a_1.Id)))<0)) then (some (-1)) else (bif (decide ((ai ((ai (ar - (len a_1.Id))) - (len a_1.Action)))<0)) then (some (-1)) else ((wd a_1.When (ai ((ai (ar - (len a_1.Id))) - (len a_1.Action)))).bind fun r3=>bif (decide (r3<0)) then (some (-1)) else (bif (decide ((ai (r3 - (len a_1.Repair)))<0)) then (some (-1)) else (some (ai (r3 - (len a_1.Repair)))))))
def mR (a_1:List Clause)(ar:Int)(self:(Int×Int)→Option (Int⊕Int))(x3:Int×Int):Option (Int⊕Int):=
 bif (decide (x3.2<(len a_1))) then ((aF a_1 x3.2).bind fun e4=>(uE e4 x3.1).bind fun r5=>bif (decide (r5<0)) then (some (.inl (-1))) else (self (r5,(ai (x3.2+1))))) else (some (.inr x3.1))
def sX (a_1:List Clause)(ar:Int): (Int×Int)→Option (Int⊕Int):=aK (mR a_1 ar)
theorem yL (a_1:List Clause)(ar:Int): ∀a,Fin1 fun f=>mR a_1 ar f a:=by
 unfold mR
 repeat first|intro _|exact aY|exact bx|apply bD|apply bh|apply bi|apply bo|apply bE
theorem OP (a_1:List Clause)(ar:Int)(x:Int×Int):sX a_1 ar x=mR a_1 ar (sX a_1 ar) x:=bH (yL a_1 ar) x
def AM (a_1:List Clause)(ar:Int):Option Int:=
 bif (decide ((ai (ar - (len a_1)))<0)) then (some (-1)) else (bf (ρ:=Int) (sX a_1 ar ((ai (ar - (len a_1))),0)) fun u6:Int=>some u6)
def AQ (a_1:Contract)(ar:Int):Option Int:=
 (wi a_1.Parties ar).bind fun r3=>bif (decide (r3<0)) then (some (-1)) else ((AM a_1.Clauses r3).bind fun r4=>bif (decide (r4<0)) then (some (-1)) else (some r4))
def AU (a_1:List Duty)(ar:Int):Option Int:=
 bif (decide ((ai (ar - (len a_1)))<0)) then (some (-1)) else (some (ai (ar - (len a_1))))
def AW (a_1:List Int)(ar:Int):Option Int:=
 bif (decide ((ai (ar - (len a_1)))<0)) then (some (-1)) else (some (ai (ar - (len a_1))))
def AY (a_1:State)(ar:Int):Option Int:=
 (wi a_1.Facts ar).bind fun r3=>bif (decide (r3<0)) then (some (-1)) else ((AU a_1.Duties r3).bind fun r4=>bif (decide (r4<0)) then (some (-1)) else ((AW a_1.Balances r4).bind fun r5=>bif (decide (r5<0)) then (some (-1)) else (some r5)))
def mW (a_1:List ac)(self:(Int×(List ac))→Option ((List ac)⊕(List ac)))(x3:Int×(List ac)):Option ((List ac)⊕(List ac)):=
 bif (decide (x3.1<(len a_1))) then ((aF a_1 x3.1).bind fun e4=>(aF x3.2 x3.1).bind fun e5=>self ((ai (x3.1+1)),(cX x3.2 x3.1 e4))) else (some (.inr x3.2))
def tg (a_1:List ac): (Int×(List ac))→Option ((List ac)⊕(List ac)):=aK (mW a_1)
theorem yS (a_1:List ac): ∀a,Fin1 fun f=>mW a_1 f a:=by
 unfold mW
 repeat first|intro _|exact aY|exact bx|apply bD|apply bh|apply bi|apply bo|apply bE
theorem OX (a_1:List ac)(x:Int×(List ac)):tg a_1 x=mW a_1 (tg a_1) x:=bH (yS a_1) x
def wt (a_1:List ac):Option (List ac):=
 (sd 16 [] (len a_1)).bind fun m2=>bf (ρ:=(List ac)) (tg a_1 (0,m2)) fun u6:(List ac)=>some u6
def lc (br:Condition→Option Condition)(a_1:List Condition)(self:(Int×(List Condition))→Option ((List Condition)⊕(List Condition)))(x3:Int×(List Condition)):Option ((List Condition)⊕(List Condition)):=
 bif (decide (x3.1<(len a_1))) then ((aF a_1 x3.1).bind fun e4=>(br e4).bind fun r5=>(aF x3.2 x3.1).bind fun e6=>self ((ai (x3.1+1)),(cX x3.2 x3.1 r5))) else (some (.inr x3.2))
def qI (br:Condition→Option Condition)(a_1:List Condition): (Int×(List Condition))→Option ((List Condition)⊕(List Condition)):=aK (lc br a_1)
theorem yP (br:Condition→Option Condition)(a_1:List Condition): ∀a,Fin1 fun f=>lc br a_1 f a:=by
 unfold lc
 repeat first|intro _|exact aY|exact bx|apply bD|apply bh|apply bi|apply bo|apply bE
theorem OU (br:Condition→Option Condition)(a_1:List Condition)(x:Int×(List Condition)):qI br a_1 x=lc br a_1 (qI br a_1) x:=bH (yP br a_1) x
def wn (br:Condition→Option Condition)(a_1:List Condition):Option (List Condition):=
 (sd 56 (Condition.mk 0 [] 0 []) (len a_1)).bind fun m2=>bf (ρ:=(List Condition)) (qI br a_1 (0,m2)) fun u7:(List Condition)=>some u7
def tc (br:Condition→Option Condition)(a_1:Condition):Option Condition:=
 (wn br a_1.Parts).bind fun r2=>some (Condition.mk a_1.Op a_1.Name a_1.Day r2)
def pG (br:Condition→Option Condition)(x:Condition):Option Condition:=tc br x
def A8 (a_1:Condition):Option Condition:=aK pG a_1
theorem Vj:∀x,Fin1 fun br=>pG br x:=by
 unfold pG tc
 repeat first|intro _|exact aY|exact bx|exact jF|exact l4|exact iC|exact kg|exact i6|exact i7|apply bD|apply bh|apply bi|apply bo|apply bE|apply qs|unfold wn|unfold qI|unfold lc
theorem Yl (a_1:Condition):A8 a_1=tc (aK pG) a_1:=bH Vj a_1
def wj (a_1:Clause):Option Clause:=
 (A8 a_1.When).bind fun r2=>some (Clause.mk a_1.Id a_1.Kind a_1.Party a_1.Action a_1.Other a_1.Amount r2 a_1.Within a_1.Repair)
def mT (a_1:List Clause)(self:(Int×(List Clause))→Option ((List Clause)⊕(List Clause)))(x3:Int×(List Clause)):Option ((List Clause)⊕(List Clause)):=
 bif (decide (x3.1<(len a_1))) then ((aF a_1 x3.1).bind fun e4=>(wj e4).bind fun r5=>(aF x3.2 x3.1).bind fun e6=>self ((ai (x3.1+1)),(cX x3.2 x3.1 r5))) else (some (.inr x3.2))
def ta (a_1:List Clause): (Int×(List Clause))→Option ((List Clause)⊕(List Clause)):=aK (mT a_1)
theorem yO (a_1:List Clause): ∀a,Fin1 fun f=>mT a_1 f a:=by
 unfold mT
 repeat first|intro _|exact aY|exact bx|apply bD|apply bh|apply bi|apply bo|apply bE
theorem OT (a_1:List Clause)(x:Int×(List Clause)):ta a_1 x=mT a_1 (ta a_1) x:=bH (yO a_1) x
def A6 (a_1:List Clause):Option (List Clause):=
 (sd 144 (Clause.mk [] 0 0 [] 0 0 (Condition.mk 0 [] 0 []) 0 []) (len a_1)).bind fun m2=>bf (ρ:=(List Clause)) (ta a_1 (0,m2)) fun u7:(List Clause)=>some u7
def uG (a_1:Contract):Option Contract:=
 (wt a_1.Parties).bind fun r2=>(A6 a_1.Clauses).bind fun r3=>some (Contract.mk r2 r3)
def wq (a_1:Duty):Option Duty:=
 some a_1
def mU (a_1:List Duty)(self:(Int×(List Duty))→Option ((List Duty)⊕(List Duty)))(x3:Int×(List Duty)):Option ((List Duty)⊕(List Duty)):=
 bif (decide (x3.1<(len a_1))) then ((aF a_1 x3.1).bind fun e4=>(wq e4).bind fun r5=>(aF x3.2 x3.1).bind fun e6=>self ((ai (x3.1+1)),(cX x3.2 x3.1 r5))) else (some (.inr x3.2))
def te (a_1:List Duty): (Int×(List Duty))→Option ((List Duty)⊕(List Duty)):=aK (mU a_1)
theorem yQ (a_1:List Duty): ∀a,Fin1 fun f=>mU a_1 f a:=by
 unfold mU
 repeat first|intro _|exact aY|exact bx|apply bD|apply bh|apply bi|apply bo|apply bE
theorem OV (a_1:List Duty)(x:Int×(List Duty)):te a_1 x=mU a_1 (te a_1) x:=bH (yQ a_1) x
def Bd (a_1:List Duty):Option (List Duty):=
 (sd 32 (Duty.mk 0 0 0 0) (len a_1)).bind fun m2=>bf (ρ:=(List Duty)) (te a_1 (0,m2)) fun u7:(List Duty)=>some u7
def mV (a_1:List Int)(self:(Int×(List Int))→Option ((List Int)⊕(List Int)))(x3:Int×(List Int)):Option ((List Int)⊕(List Int)):=
 bif (decide (x3.1<(len a_1))) then ((aF a_1 x3.1).bind fun e4=>(aF x3.2 x3.1).bind fun e5=>self ((ai (x3.1+1)),(cX x3.2 x3.1 e4))) else (some (.inr x3.2))
def tf (a_1:List Int): (Int×(List Int))→Option ((List Int)⊕(List Int)):=aK (mV a_1)
theorem yR (a_1:List Int): ∀a,Fin1 fun f=>mV a_1 f a:=by
 unfold mV
 repeat first|intro _|exact aY|exact bx|apply bD|apply bh|apply bi|apply bo|apply bE
theorem OW (a_1:List Int)(x:Int×(List Int)):tf a_1 x=mV a_1 (tf a_1) x:=bH (yR a_1) x
def Bf (a_1:List Int):Option (List Int):=
 (sd 8 0 (len a_1)).bind fun m2=>bf (ρ:=(List Int)) (tf a_1 (0,m2)) fun u6:(List Int)=>some u6
def uH (a_1:State):Option State:=
 (wt a_1.Facts).bind fun r2=>(Bd a_1.Duties).bind fun r3=>(Bf a_1.Balances).bind fun r4=>some (State.mk a_1.Day r2 r3 r4 a_1.Over)
def eq (x_1:Int)(a_2:Int)(b_3:Int):Option Bool:=
 cf (bif (decide (x_1≥a_2)) then (decide (x_1≤b_3)) else false) fun u4:Bool=>some u4
def wN (b_1:Int):Option Bool:=
 cf (bif (decide (b_1≥97)) then (cf (bif (decide (b_1≤122)) then true else (cf (bif (decide (b_1≥48)) then (decide (b_1≤57)) else false) fun u4:Bool=>u4)) fun u3:Bool=>u3) else (cf (bif (decide (b_1≥48)) then (decide (b_1≤57)) else false) fun u5:Bool=>u5)) fun u2:Bool=>some u2
def nm (s_1:ac)(self:Int→Option (Bool⊕Unit))(x4:Int):Option (Bool⊕Unit):=
 bif (decide (x4<(len s_1))) then ((aF s_1 x4).bind fun c5=>(wN (c5.toNat:Int)).bind fun r6=>bif (!r6) then (some (.inl false)) else (self (ai (x4+1)))) else (some (.inr ()))
def tD (s_1:ac): Int→Option (Bool⊕Unit):=aK (nm s_1)
theorem zu (s_1:ac): ∀a,Fin1 fun f=>nm s_1 f a:=by
 unfold nm
 repeat first|intro _|exact aY|exact bx|apply bD|apply bh|apply bi|apply bo|apply bE
theorem O8 (s_1:ac)(x:Int):tD s_1 x=nm s_1 (tD s_1) x:=bH (zu s_1) x
def qX (s_1:ac):Option Bool:=
 (eq (len s_1) 1 8).bind fun r2=>bf (ρ:=Bool) (bif (!r2) then (some (.inr true)) else ((aF s_1 0).bind fun c16=>bZ (ρ:=Bool) (bif (decide ((c16.toNat:Int)<97)) then (some (.inr true)) else ((aF s_1 0).bind fun c18=>some (.inr (decide ((c18.toNat:Int)>122))))) fun u17:Bool=>some (.inr u17))) fun u3:Bool=>bif u3 then (some false) else (bf (ρ:=Bool) (tD s_1 0) fun u7:Unit=>cf (bif (s_1==([116,114,117,101]:ac)) then (s_1==([116,114,117,101]:ac)) else (cf (bif (s_1==([102,114,111,109]:ac)) then (s_1==([102,114,111,109]:ac)) else (cf (bif (s_1==([110,111,116]:ac)) then (s_1==([110,111,116]:ac)) else (cf (bif (s_1==([97,110,100]:ac)) then (s_1==([97,110,100]:ac)) else (cf (bif (s_1==([111,114]:ac)) then (s_1==([111,114]:ac)) else (cf (bif (s_1==([98,111,116,104]:ac)) then (s_1==([98,111,116,104]:ac)) else (cf (bif (s_1==([101,105,116,104,101,114]:ac)) then (s_1==([101,105,116,104,101,114]:ac)) else (cf (bif (s_1==([105,116]:ac)) then (s_1==([105,116]:ac)) else (s_1==([105,110]:ac))) fun u15:Bool=>u15)) fun u14:Bool=>u14)) fun u13:Bool=>u13)) fun u12:Bool=>u12)) fun u11:Bool=>u11)) fun u10:Bool=>u10)) fun u9:Bool=>u9)) fun u8:Bool=>bif u8 then (some false) else (some true))
def ni (aw:List ac)(eS:ac)(self:Int→Option (Bool⊕Unit))(x3:Int):Option (Bool⊕Unit):=
 bif (decide (x3<(len aw))) then ((aF aw x3).bind fun e4=>bif (e4==eS) then (some (.inl true)) else (self (ai (x3+1)))) else (some (.inr ()))
def tC (aw:List ac)(eS:ac): Int→Option (Bool⊕Unit):=aK (ni aw eS)
theorem zt (aw:List ac)(eS:ac): ∀a,Fin1 fun f=>ni aw eS f a:=by
 unfold ni
 repeat first|intro _|exact aY|exact bx|apply bD|apply bh|apply bi|apply bo|apply bE
theorem O7 (aw:List ac)(eS:ac)(x:Int):tC aw eS x=ni aw eS (tC aw eS) x:=bH (zt aw eS) x
def uS (aw:List ac)(eS:ac):Option Bool:=
 bf (ρ:=Bool) (tC aw eS 0) fun u5:Unit=>some false
def lx (c_1:Contract)(self:Int→Option (Bool⊕Unit))(x2:Int):Option (Bool⊕Unit):=
 bif (decide (x2<(len c_1.Parties))) then ((aF c_1.Parties x2).bind fun e3=>(qX e3).bind fun r4=>bZ (ρ:=Bool) (bif (!r4) then (some (.inr true)) else ((kS c_1.Parties 0 x2).bind fun s6=>(aF c_1.Parties x2).bind fun e7=>(uS s6 e7).bind fun r8=>some (.inr r8))) fun u5:Bool=>bif u5 then (some (.inl false)) else (self (ai (x2+1)))) else (some (.inr ()))
def tN (c_1:Contract): Int→Option (Bool⊕Unit):=aK (lx c_1)
theorem zD (c_1:Contract): ∀a,Fin1 fun f=>lx c_1 f a:=by
 unfold lx
 repeat first|intro _|exact aY|exact bx|apply bD|apply bh|apply bi|apply bo|apply bE
theorem Fq (c_1:Contract)(x:Int):tN c_1 x=lx c_1 (tN c_1) x:=bH (zD c_1) x
def wW (c_1:Contract):Option Bool:=
 bf (ρ:=Bool) (tN c_1 0) fun u9:Unit=>(eq (len c_1.Parties) 2 4).bind fun r10=>some r10
def nq (c_1:Contract)(fb:ac)(self:Int→Option (Int⊕Unit))(x3:Int):Option (Int⊕Unit):=
 bif (decide (x3<(len c_1.Clauses))) then ((aF c_1.Clauses x3).bind fun e4=>bif (e4.Id==fb) then (some (.inl x3)) else (self (ai (x3+1)))) else (some (.inr ()))
def tL (c_1:Contract)(fb:ac): Int→Option (Int⊕Unit):=aK (nq c_1 fb)
theorem zA (c_1:Contract)(fb:ac): ∀a,Fin1 fun f=>nq c_1 fb f a:=by
 unfold nq
 repeat first|intro _|exact aY|exact bx|apply bD|apply bh|apply bi|apply bo|apply bE
theorem Pa (c_1:Contract)(fb:ac)(x:Int):tL c_1 fb x=nq c_1 fb (tL c_1 fb) x:=bH (zA c_1 fb) x
def uV (c_1:Contract)(fb:ac):Option Int:=
 bf (ρ:=Int) (tL c_1 fb 0) fun u5:Unit=>some (-1)
def qU (gP:Int):Option Bool:=
 (eq gP 0 36524).bind fun r2=>some r2
def BO (c_1:Condition):Option Bool:=
 bif (c_1.Op==1) then (cf (bif ((len c_1.Parts)==0) then (cf (bif (c_1.Name==([]:ac)) then (c_1.Day==0) else false) fun u3:Bool=>u3) else false) fun u2:Bool=>some u2) else (bif (c_1.Op==2) then (bf (ρ:=Bool) (bif ((len c_1.Parts)==0) then ((qX c_1.Name).bind fun r5=>cf (bif r5 then (c_1.Day==0) else false) fun u6:Bool=>some (.inr u6)) else (some (.inr false))) fun u4:Bool=>some u4) else (bif (c_1.Op==3) then (bf (ρ:=Bool) (bif ((len c_1.Parts)==0) then (bZ (ρ:=Bool) (bif (c_1.Name==([]:ac)) then ((qU c_1.Day).bind fun r9=>some (.inr r9)) else (some (.inr false))) fun u8:Bool=>some (.inr u8)) else (some (.inr false))) fun u7:Bool=>some u7) else (bif (c_1.Op==4) then (cf (bif ((len c_1.Parts)==1) then (cf (bif (c_1.Name==([]:ac)) then (c_1.Day==0) else false) fun u11:Bool=>u11) else false) fun u10:Bool=>some u10) else (cf (bif (c_1.Op==5) then (c_1.Op==5) else (c_1.Op==6)) fun u12:Bool=>bif u12 then (cf (bif ((len c_1.Parts)==2) then (cf (bif (c_1.Name==([]:ac)) then (c_1.Day==0) else false) fun u14:Bool=>u14) else false) fun u13:Bool=>some u13) else (some false)))))
def ln (cr:Condition→Option Bool)(c_1:Condition)(self:Int→Option (Bool⊕Unit))(x3:Int):Option (Bool⊕Unit):=
 bif (decide (x3<(len c_1.Parts))) then ((aF c_1.Parts x3).bind fun e4=>(cr e4).bind fun r5=>bif (!r5) then (some (.inl false)) else (self (ai (x3+1)))) else (some (.inr ()))
def qN (cr:Condition→Option Bool)(c_1:Condition): Int→Option (Bool⊕Unit):=aK (ln cr c_1)
theorem zr (cr:Condition→Option Bool)(c_1:Condition): ∀a,Fin1 fun f=>ln cr c_1 f a:=by
 unfold ln
 repeat first|intro _|exact aY|exact bx|apply bD|apply bh|apply bi|apply bo|apply bE
theorem O6 (cr:Condition→Option Bool)(c_1:Condition)(x:Int):qN cr c_1 x=ln cr c_1 (qN cr c_1) x:=bH (zr cr c_1) x
def tB (cr:Condition→Option Bool)(c_1:Condition):Option Bool:=
 (BO c_1).bind fun r2=>bif (!r2) then (some false) else (bf (ρ:=Bool) (qN cr c_1 0) fun u6:Unit=>some true)
def qW (cr:Condition→Option Bool)(x:Condition):Option Bool:=tB cr x
def Hj (c_1:Condition):Option Bool:=aK qW c_1
theorem VV:∀x,Fin1 fun cr=>qW cr x:=by
 unfold qW tB
 repeat first|intro _|exact aY|exact bx|exact jF|exact l4|exact iC|exact kg|exact i6|exact i7|apply bD|apply bh|apply bi|apply bo|apply bE|apply qs|unfold qN|unfold ln
theorem Yr (c_1:Condition):Hj c_1=tB (aK qW) c_1:=bH VV c_1
def jW (cu:Condition→Option Int)(c_1:Condition)(self:(Int×Int)→Option (Int⊕Int))(x2:Int×Int):Option (Int⊕Int):=
 bif (decide (x2.2<(len c_1.Parts))) then ((aF c_1.Parts x2.2).bind fun e3=>(cu e3).bind fun r4=>self ((ai (x2.1+r4)),(ai (x2.2+1)))) else (some (.inr x2.1))
def lW (cu:Condition→Option Int)(c_1:Condition): (Int×Int)→Option (Int⊕Int):=aK (jW cu c_1)
theorem zy (cu:Condition→Option Int)(c_1:Condition): ∀a,Fin1 fun f=>jW cu c_1 f a:=by
 unfold jW
 repeat first|intro _|exact aY|exact bx|apply bD|apply bh|apply bi|apply bo|apply bE
theorem E9 (cu:Condition→Option Int)(c_1:Condition)(x:Int×Int):lW cu c_1 x=jW cu c_1 (lW cu c_1) x:=bH (zy cu c_1) x
def tI (cu:Condition→Option Int)(c_1:Condition):Option Int:=
 bf (ρ:=Int) (lW cu c_1 (1,0)) fun u5:Int=>some u5
def ls (cu:Condition→Option Int)(x:Condition):Option Int:=tI cu x
def KY (c_1:Condition):Option Int:=aK ls c_1
theorem V4:∀x,Fin1 fun cu=>ls cu x:=by
 unfold ls tI
 repeat first|intro _|exact aY|exact bx|exact jF|exact l4|exact iC|exact kg|exact i6|exact i7|apply bD|apply bh|apply bi|apply bo|apply bE|apply qs|unfold lW|unfold jW
theorem Yt (c_1:Condition):KY c_1=tI (aK ls) c_1:=bH V4 c_1
def BR (c_1:Condition):Option Bool:=
 (Hj c_1).bind fun r2=>bf (ρ:=Bool) (bif r2 then ((KY c_1).bind fun r4=>some (.inr (decide (r4≤15)))) else (some (.inr false))) fun u3:Bool=>some u3
def BW (c_1:Contract)(i_2:Int):Option Bool:=
 (aF c_1.Clauses i_2).bind fun e3=>(qX e3.Id).bind fun r4=>bf (ρ:=Bool) (bif (!r4) then (some (.inr true)) else ((qX e3.Action).bind fun r17=>bZ (ρ:=Bool) (bif (!r17) then (some (.inr true)) else ((eq e3.Kind 1 4).bind fun r19=>bZ (ρ:=Bool) (bif (!r19) then (some (.inr true)) else ((eq e3.Party 0 (ai ((len c_1.Parties) - 1))).bind fun r21=>bZ (ρ:=Bool) (bif (!r21) then (some (.inr true)) else ((eq e3.Other 0 (ai ((len c_1.Parties) - 1))).bind fun r23=>bZ (ρ:=Bool) (bif (!r23) then (some (.inr true)) else (bZ (ρ:=Bool) (bif (e3.Party==e3.Other) then (some (.inr true)) else ((BR e3.When).bind fun r26=>some (.inr (!r26)))) fun u25:Bool=>some (.inr u25))) fun u24:Bool=>some (.inr u24))) fun u22:Bool=>some (.inr u22))) fun u20:Bool=>some (.inr u20))) fun u18:Bool=>some (.inr u18))) fun u5:Bool=>bif u5 then (some false) else ((eq e3.Amount 0 1000000).bind fun r6=>bf (ρ:=Bool) (bif (!r6) then (some (.inr true)) else ((eq e3.Within 0 400).bind fun r13=>cf (bif (!r13) then true else (cf (bif (e3.Kind != 1) then (cf (bif (e3.Amount != 0) then true else (e3.Within != 0)) fun u16:Bool=>u16) else false) fun u15:Bool=>u15)) fun u14:Bool=>some (.inr u14))) fun u7:Bool=>bif u7 then (some false) else (bif (e3.Repair==([]:ac)) then (some true) else ((uV c_1 e3.Repair).bind fun r8=>bf (ρ:=Bool) (bif (decide (r8≥0)) then (bZ (ρ:=Bool) (bif (r8 != i_2) then ((aF c_1.Clauses r8).bind fun e11=>cf (bif (e11.Kind==1) then (e3.Kind != 3) else false) fun u12:Bool=>some (.inr u12)) else (some (.inr false))) fun u10:Bool=>some (.inr u10)) else (some (.inr false))) fun u9:Bool=>some u9)))
def lr (l_8:List ac)(s_9:ac)(self:Int→Option ((List ac)⊕(ac×Int×(List ac))))(x3:Int):Option ((List ac)⊕(ac×Int×(List ac))):=
 bZ (ρ:=(List ac)) (bif (decide (x3<(len l_8))) then ((aF l_8 x3).bind fun e5=>some (.inr (Op.bytesLess e5 s_9))) else (some (.inr false))) fun u4:Bool=>bif u4 then (self (ai (x3+1))) else (some (.inr (s_9,x3,l_8)))
def tG (l_8:List ac)(s_9:ac): Int→Option ((List ac)⊕(ac×Int×(List ac))):=aK (lr l_8 s_9)
theorem zx (l_8:List ac)(s_9:ac): ∀a,Fin1 fun f=>lr l_8 s_9 f a:=by
 unfold lr
 repeat first|intro _|exact aY|exact bx|apply bD|apply bh|apply bi|apply bo|apply bE
theorem E6 (l_8:List ac)(s_9:ac)(x:Int):tG l_8 s_9 x=lr l_8 s_9 (tG l_8 s_9) x:=bH (zx l_8 s_9) x
def wL (l_8:List ac)(s_9:ac):Option (List ac):=
 bf (ρ:=(List ac)) (tG l_8 s_9 0) fun u6:ac×Int×(List ac)=>bf (ρ:=(List ac)) (bif (decide (u6.2.1<(len u6.2.2))) then ((aF u6.2.2 u6.2.1).bind fun e15=>some (.inr (e15==u6.1))) else (some (.inr false))) fun u7:Bool=>bif u7 then (some u6.2.2) else ((jq u6.2.2.length 0 u6.2.1).bind fun s8=>(ju u6.2.2 (0+Int.toNat (0)) (Int.toNat u6.2.1 - Int.toNat (0))).bind fun p9=>(iz 16 ([]:List ac) p9).bind fun a10=>(iz 16 a10 [u6.1]).bind fun a11=>(jq u6.2.2.length u6.2.1 (len u6.2.2)).bind fun s12=>(ju u6.2.2 (0+Int.toNat u6.2.1) (Int.toNat (len u6.2.2) - Int.toNat u6.2.1)).bind fun p13=>(iz 16 a11 p13).bind fun a14=>some a14)
def jV (ct:((List ac)×Condition)→Option (List ac))(l_4:List ac)(c_5:Condition)(self:(Int×(List ac))→Option ((List ac)⊕(List ac)))(x4:Int×(List ac)):Option ((List ac)⊕(List ac)):=
 bif (decide (x4.1<(len c_5.Parts))) then ((aF c_5.Parts x4.1).bind fun e5=>(ct (x4.2,e5)).bind fun r6=>self ((ai (x4.1+1)),r6)) else (some (.inr x4.2))
def lV (ct:((List ac)×Condition)→Option (List ac))(l_4:List ac)(c_5:Condition): (Int×(List ac))→Option ((List ac)⊕(List ac)):=aK (jV ct l_4 c_5)
theorem zw (ct:((List ac)×Condition)→Option (List ac))(l_4:List ac)(c_5:Condition): ∀a,Fin1 fun f=>jV ct l_4 c_5 f a:=by
 unfold jV
 repeat first|intro _|exact aY|exact bx|apply bD|apply bh|apply bi|apply bo|apply bE
theorem E3 (ct:((List ac)×Condition)→Option (List ac))(l_4:List ac)(c_5:Condition)(x:Int×(List ac)):lV ct l_4 c_5 x=jV ct l_4 c_5 (lV ct l_4 c_5) x:=bH (zw ct l_4 c_5) x
def tE (ct:((List ac)×Condition)→Option (List ac))(l_4:List ac)(c_5:Condition):Option (List ac):=
 bif (c_5.Op==2) then ((wL l_4 c_5.Name).bind fun r3=>some r3) else (bf (ρ:=(List ac)) (lV ct l_4 c_5 (0,l_4)) fun u7:(List ac)=>some u7)
def lq (ct:((List ac)×Condition)→Option (List ac))(x:(List ac)×Condition):Option (List ac):=tE ct x.1 x.2
def KV (l_4:List ac)(c_5:Condition):Option (List ac):=aK lq (l_4,c_5)
theorem V0:∀x,Fin1 fun ct=>lq ct x:=by
 unfold lq tE
 repeat first|intro _|exact aY|exact bx|exact jF|exact l4|exact iC|exact kg|exact i6|exact i7|apply bD|apply bh|apply bi|apply bo|apply bE|apply qs|unfold lV|unfold jV
theorem Ys (l_4:List ac)(c_5:Condition):KV l_4 c_5=tE (aK lq) l_4 c_5:=bH V0 (l_4,c_5)
def lw (c_1:Contract)(self:(Int×(List ac))→Option ((List ac)⊕(List ac)))(x2:Int×(List ac)):Option ((List ac)⊕(List ac)):=
 bif (decide (x2.1<(len c_1.Clauses))) then ((aF c_1.Clauses x2.1).bind fun e3=>(wL x2.2 e3.Action).bind fun r4=>(aF c_1.Clauses x2.1).bind fun e5=>(KV r4 e5.When).bind fun r6=>self ((ai (x2.1+1)),r6)) else (some (.inr x2.2))
def nr (c_1:Contract): (Int×(List ac))→Option ((List ac)⊕(List ac)):=aK (lw c_1)
theorem zC (c_1:Contract): ∀a,Fin1 fun f=>lw c_1 f a:=by
 unfold lw
 repeat first|intro _|exact aY|exact bx|apply bD|apply bh|apply bi|apply bo|apply bE
theorem Fm (c_1:Contract)(x:Int×(List ac)):nr c_1 x=lw c_1 (nr c_1) x:=bH (zC c_1) x
def qb (c_1:Contract):Option (List ac):=
 bf (ρ:=(List ac)) (nr c_1 (0,[])) fun u7:(List ac)=>some u7
def lu (c_1:Contract)(self:Int→Option (Bool⊕Unit))(x4:Int):Option (Bool⊕Unit):=
 bif (decide (x4<(len c_1.Clauses))) then ((aF c_1.Clauses x4).bind fun e5=>(uV c_1 e5.Id).bind fun r6=>bZ (ρ:=Bool) (bif (r6 != x4) then (some (.inr true)) else ((BW c_1 x4).bind fun r8=>some (.inr (!r8)))) fun u7:Bool=>bif u7 then (some (.inl false)) else (self (ai (x4+1)))) else (some (.inr ()))
def lX (c_1:Contract): Int→Option (Bool⊕Unit):=aK (lu c_1)
theorem zB (c_1:Contract): ∀a,Fin1 fun f=>lu c_1 f a:=by
 unfold lu
 repeat first|intro _|exact aY|exact bx|apply bD|apply bh|apply bi|apply bo|apply bE
theorem Fj (c_1:Contract)(x:Int):lX c_1 x=lu c_1 (lX c_1) x:=bH (zB c_1) x
def B1 (c_1:Contract):Option Bool:=
 (eq (len c_1.Clauses) 1 12).bind fun r2=>bf (ρ:=Bool) (bif (!r2) then (some (.inr true)) else ((wW c_1).bind fun r11=>some (.inr (!r11)))) fun u3:Bool=>bif u3 then (some false) else (bf (ρ:=Bool) (lX c_1 0) fun u9:Unit=>(qb c_1).bind fun r10=>some (decide ((len r10)≤16)))
def jU (aw:List ac)(self:Int→Option (Bool⊕Unit))(x2:Int):Option (Bool⊕Unit):=
 cf (bif (decide (x2<(len aw))) then (decide (x2≤16)) else false) fun u3:Bool=>bif u3 then ((aF aw x2).bind fun e4=>(qX e4).bind fun r5=>bZ (ρ:=Bool) (bif (!r5) then (some (.inr true)) else (bZ (ρ:=Bool) (bif (decide (x2>0)) then ((aF aw (ai (x2 - 1))).bind fun e8=>(aF aw x2).bind fun e9=>some (.inr (!(Op.bytesLess e8 e9)))) else (some (.inr false))) fun u7:Bool=>some (.inr u7))) fun u6:Bool=>bif u6 then (some (.inl false)) else (self (ai (x2+1)))) else (some (.inr ()))
def iO (aw:List ac): Int→Option (Bool⊕Unit):=aK (jU aw)
theorem zq (aw:List ac): ∀a,Fin1 fun f=>jU aw f a:=by
 unfold jU
 repeat first|intro _|exact aY|exact bx|apply bD|apply bh|apply bi|apply bo|apply bE
theorem uR (aw:List ac)(x:Int):iO aw x=jU aw (iO aw) x:=bH (zq aw) x
def BM (aw:List ac):Option Bool:=
 bf (ρ:=Bool) (iO aw 0) fun u10:Unit=>some (decide ((len aw)≤16))
def np (c_1:Contract)(i_2:Int)(self:Int→Option (Bool⊕Unit))(x3:Int):Option (Bool⊕Unit):=
 bif (decide (x3<(len c_1.Clauses))) then ((aF c_1.Clauses x3).bind fun e4=>(aF c_1.Clauses i_2).bind fun e5=>bif (e4.Repair==e5.Id) then (some (.inl true)) else (self (ai (x3+1)))) else (some (.inr ()))
def tK (c_1:Contract)(i_2:Int): Int→Option (Bool⊕Unit):=aK (np c_1 i_2)
theorem zz (c_1:Contract)(i_2:Int): ∀a,Fin1 fun f=>np c_1 i_2 f a:=by
 unfold np
 repeat first|intro _|exact aY|exact bx|apply bD|apply bh|apply bi|apply bo|apply bE
theorem O9 (c_1:Contract)(i_2:Int)(x:Int):tK c_1 i_2 x=np c_1 i_2 (tK c_1 i_2) x:=bH (zz c_1 i_2) x
def BZ (c_1:Contract)(i_2:Int):Option Bool:=
 bf (ρ:=Bool) (tK c_1 i_2 0) fun u6:Unit=>some false
def ly (s_1:State)(i_2:Int)(self:(Int×Int)→Option (Int⊕Int))(x3:Int×Int):Option (Int⊕Int):=
 bif (decide (x3.2<(len s_1.Duties))) then ((aF s_1.Duties x3.2).bind fun e4=>cf (bif (e4.Clause==i_2) then (ai (x3.1+1)) else x3.1) fun u5:Int=>self (u5,(ai (x3.2+1)))) else (some (.inr x3.1))
def lY (s_1:State)(i_2:Int): (Int×Int)→Option (Int⊕Int):=aK (ly s_1 i_2)
theorem zE (s_1:State)(i_2:Int): ∀a,Fin1 fun f=>ly s_1 i_2 f a:=by
 unfold ly
 repeat first|intro _|exact aY|exact bx|apply bD|apply bh|apply bi|apply bo|apply bE
theorem Fy (s_1:State)(i_2:Int)(x:Int×Int):lY s_1 i_2 x=ly s_1 i_2 (lY s_1 i_2) x:=bH (zE s_1 i_2) x
def B4 (s_1:State)(i_2:Int):Option Int:=
 bf (ρ:=Int) (lY s_1 i_2 (0,0)) fun u6:Int=>some u6
def B6 (c_1:Contract)(s_2:State)(k_3:Int):Option Bool:=
 (aF s_2.Duties k_3).bind fun e4=>(eq e4.Clause 0 (ai ((len c_1.Clauses) - 1))).bind fun r5=>bf (ρ:=Bool) (bif (!r5) then (some (.inr true)) else ((aF c_1.Clauses e4.Clause).bind fun e35=>bZ (ρ:=Bool) (bif (e35.Kind != 1) then (some (.inr true)) else ((eq e4.Since 0 s_2.Day).bind fun r37=>bZ (ρ:=Bool) (bif (!r37) then (some (.inr true)) else ((aF c_1.Clauses e4.Clause).bind fun e39=>bZ (ρ:=Bool) (bif (e4.Due != (ai (e4.Since+e39.Within))) then (some (.inr true)) else ((qU e4.Due).bind fun r41=>bZ (ρ:=Bool) (bif (!r41) then (some (.inr true)) else ((eq e4.Status 1 4).bind fun r43=>some (.inr (!r43)))) fun u42:Bool=>some (.inr u42))) fun u40:Bool=>some (.inr u40))) fun u38:Bool=>some (.inr u38))) fun u36:Bool=>some (.inr u36))) fun u6:Bool=>bif u6 then (some false) else (bf (ρ:=Bool) (bif (decide (k_3>0)) then ((aF s_2.Duties (ai (k_3 - 1))).bind fun e11=>cf (bif (decide (e11.Since>e4.Since)) then true else (cf (bif (e4.Status==1) then (cf (bif (decide (e4.Due<s_2.Day)) then true else (cf (bif s_2.Over then true else (cf (bif (e4.Status==3) then (cf (bif (decide (e4.Due≥s_2.Day)) then true else (cf (bif (e4.Status==4) then (!s_2.Over) else false) fun u18:Bool=>u18)) fun u17:Bool=>u17) else (cf (bif (e4.Status==4) then (!s_2.Over) else false) fun u19:Bool=>u19)) fun u16:Bool=>u16)) fun u15:Bool=>u15)) fun u14:Bool=>u14) else (cf (bif (e4.Status==3) then (cf (bif (decide (e4.Due≥s_2.Day)) then true else (cf (bif (e4.Status==4) then (!s_2.Over) else false) fun u22:Bool=>u22)) fun u21:Bool=>u21) else (cf (bif (e4.Status==4) then (!s_2.Over) else false) fun u23:Bool=>u23)) fun u20:Bool=>u20)) fun u13:Bool=>u13)) fun u12:Bool=>some (.inr u12)) else (cf (bif (e4.Status==1) then (cf (bif (decide (e4.Due<s_2.Day)) then true else (cf (bif s_2.Over then true else (cf (bif (e4.Status==3) then (cf (bif (decide (e4.Due≥s_2.Day)) then true else (cf (bif (e4.Status==4) then (!s_2.Over) else false) fun u29:Bool=>u29)) fun u28:Bool=>u28) else (cf (bif (e4.Status==4) then (!s_2.Over) else false) fun u30:Bool=>u30)) fun u27:Bool=>u27)) fun u26:Bool=>u26)) fun u25:Bool=>u25) else (cf (bif (e4.Status==3) then (cf (bif (decide (e4.Due≥s_2.Day)) then true else (cf (bif (e4.Status==4) then (!s_2.Over) else false) fun u33:Bool=>u33)) fun u32:Bool=>u32) else (cf (bif (e4.Status==4) then (!s_2.Over) else false) fun u34:Bool=>u34)) fun u31:Bool=>u31)) fun u24:Bool=>some (.inr u24))) fun u7:Bool=>bif u7 then (some false) else ((BZ c_1 e4.Clause).bind fun r8=>bf (ρ:=Bool) (bif r8 then (some (.inr true)) else ((B4 s_2 e4.Clause).bind fun r10=>some (.inr (r10==1)))) fun u9:Bool=>some u9))
def BI (x_1:Int):Option Bool:=
 (eq x_1 (-1000000000) 1000000000).bind fun r2=>some r2
def lm (aw:List Int)(self:(Int×Int)→Option (Int⊕Int))(x2:Int×Int):Option (Int⊕Int):=
 bif (decide (x2.2<(len aw))) then ((aF aw x2.2).bind fun e3=>self ((ai (x2.1+e3)),(ai (x2.2+1)))) else (some (.inr x2.1))
def kJ (aw:List Int): (Int×Int)→Option (Int⊕Int):=aK (lm aw)
theorem zp (aw:List Int): ∀a,Fin1 fun f=>lm aw f a:=by
 unfold lm
 repeat first|intro _|exact aY|exact bx|apply bD|apply bh|apply bi|apply bo|apply bE
theorem EN (aw:List Int)(x:Int×Int):kJ aw x=lm aw (kJ aw) x:=bH (zp aw) x
def uQ (aw:List Int):Option Int:=
 bf (ρ:=Int) (kJ aw (0,0)) fun u4:Int=>some u4
def nt (c_1:Contract)(s_2:State)(r5:(List ac))(self:Int→Option (Bool⊕Unit))(x6:Int):Option (Bool⊕Unit):=
 bif (decide (x6<(len s_2.Facts))) then ((aF s_2.Facts x6).bind fun e7=>(uS r5 e7).bind fun r8=>bif (!r8) then (some (.inl false)) else (self (ai (x6+1)))) else (some (.inr ()))
def tQ (c_1:Contract)(s_2:State)(r5:(List ac)):Int→Option (Bool⊕Unit):=aK (nt c_1 s_2 r5)
theorem zF (c_1:Contract)(s_2:State)(r5:(List ac)):∀a,Fin1 fun f=>nt c_1 s_2 r5 f a:=by
 unfold nt
 repeat first|intro _|exact aY|exact bx|apply bD|apply bh|apply bi|apply bo|apply bE
theorem Pc (c_1:Contract)(s_2:State)(r5:(List ac))(x:Int):tQ c_1 s_2 r5 x=nt c_1 s_2 r5 (tQ c_1 s_2 r5) x:=bH (zF c_1 s_2 r5) x
def lz (c_1:Contract)(s_2:State)(self:Int→Option (Bool⊕Unit))(x10:Int):Option (Bool⊕Unit):=
 bif (decide (x10<(len s_2.Duties))) then ((B6 c_1 s_2 x10).bind fun r11=>bif (!r11) then (some (.inl false)) else (self (ai (x10+1)))) else (some (.inr ()))
def nu (c_1:Contract)(s_2:State): Int→Option (Bool⊕Unit):=aK (lz c_1 s_2)
theorem zG (c_1:Contract)(s_2:State): ∀a,Fin1 fun f=>lz c_1 s_2 f a:=by
 unfold lz
 repeat first|intro _|exact aY|exact bx|apply bD|apply bh|apply bi|apply bo|apply bE
theorem FD (c_1:Contract)(s_2:State)(x:Int):nu c_1 s_2 x=lz c_1 s_2 (nu c_1 s_2) x:=bH (zG c_1 s_2) x
def ny (c_1:Contract)(s_2:State)(self:Int→Option (Bool⊕Unit))(x13:Int):Option (Bool⊕Unit):=
 bif (decide (x13<(len s_2.Balances))) then ((aF s_2.Balances x13).bind fun e14=>(BI e14).bind fun r15=>bif (!r15) then (some (.inl false)) else (self (ai (x13+1)))) else (some (.inr ()))
def tR (c_1:Contract)(s_2:State): Int→Option (Bool⊕Unit):=aK (ny c_1 s_2)
theorem zH (c_1:Contract)(s_2:State): ∀a,Fin1 fun f=>ny c_1 s_2 f a:=by
 unfold ny
 repeat first|intro _|exact aY|exact bx|apply bD|apply bh|apply bi|apply bo|apply bE
theorem Pd (c_1:Contract)(s_2:State)(x:Int):tR c_1 s_2 x=ny c_1 s_2 (tR c_1 s_2) x:=bH (zH c_1 s_2) x
def uZ (c_1:Contract)(s_2:State):Option Bool:=
 (B1 c_1).bind fun r3=>bf (ρ:=Bool) (bif (!r3) then (some (.inr true)) else ((qU s_2.Day).bind fun r18=>bZ (ρ:=Bool) (bif (!r18) then (some (.inr true)) else ((BM s_2.Facts).bind fun r20=>cf (bif (!r20) then true else (cf (bif (decide ((len s_2.Duties)>24)) then true else ((len s_2.Balances) != (len c_1.Parties))) fun u22:Bool=>u22)) fun u21:Bool=>some (.inr u21))) fun u19:Bool=>some (.inr u19))) fun u4:Bool=>bif u4 then (some false) else ((qb c_1).bind fun r5=>bf (ρ:=Bool) (tQ c_1 s_2 r5 0) fun u9:Unit=>bf (ρ:=Bool) (nu c_1 s_2 0) fun u12:Unit=>bf (ρ:=Bool) (tR c_1 s_2 0) fun u16:Unit=>(uQ s_2.Balances).bind fun r17=>some (r17==0))
def lj (s_1:State)(du:List Int)(k_3:Int)(self:Int→Option ((List Int)⊕Int))(x4:Int):Option ((List Int)⊕Int):=
 bZ (ρ:=(List Int)) (bif (decide (x4>0)) then ((aF du (ai (x4 - 1))).bind fun e6=>(aF s_1.Duties e6).bind fun e7=>(aF s_1.Duties k_3).bind fun e8=>some (.inr (decide (e7.Due>e8.Due)))) else (some (.inr false))) fun u5:Bool=>bif u5 then (self (ai (x4 - 1))) else (some (.inr x4))
def oS (s_1:State)(du:List Int)(k_3:Int): Int→Option ((List Int)⊕Int):=aK (lj s_1 du k_3)
theorem zo (s_1:State)(du:List Int)(k_3:Int): ∀a,Fin1 fun f=>lj s_1 du k_3 f a:=by
 unfold lj
 repeat first|intro _|exact aY|exact bx|apply bD|apply bh|apply bi|apply bo|apply bE
theorem EI (s_1:State)(du:List Int)(k_3:Int)(x:Int):oS s_1 du k_3 x=lj s_1 du k_3 (oS s_1 du k_3) x:=bH (zo s_1 du k_3) x
def uO (s_1:State)(du:List Int)(k_3:Int):Option (List Int):=
 bf (ρ:=(List Int)) (oS s_1 du k_3 (len du)) fun u9:Int=>(kS du 0 u9).bind fun s10=>(iz 8 ([]:List Int) s10).bind fun a11=>(iz 8 a11 [k_3]).bind fun a12=>(kS du u9 (len du)).bind fun s13=>(iz 8 a12 s13).bind fun a14=>some a14
def li (c_1:Contract)(s_2:State)(dQ:Int)(eT:Int)(self:(Int×(List Int))→Option ((List Int)⊕(List Int)))(x5:Int×(List Int)):Option ((List Int)⊕(List Int)):=
 bif (decide (x5.1<(len s_2.Duties))) then ((aF s_2.Duties x5.1).bind fun e6=>(aF c_1.Clauses e6.Clause).bind fun e7=>(aF s_2.Duties x5.1).bind fun e8=>cf (bif (e8.Status==1) then (cf (bif (decide (dQ<0)) then (cf (bif (decide (eT<0)) then true else (e7.Other==eT)) fun u13:Bool=>u13) else (cf (bif (e7.Party==dQ) then (cf (bif (decide (eT<0)) then true else (e7.Other==eT)) fun u15:Bool=>u15) else false) fun u14:Bool=>u14)) fun u12:Bool=>u12) else false) fun u9:Bool=>bZ (ρ:=(List Int)) (bif u9 then ((uO s_2 x5.2 x5.1).bind fun r11=>some (.inr r11)) else (some (.inr x5.2))) fun u10:(List Int)=>self ((ai (x5.1+1)),u10)) else (some (.inr x5.2))
def kI (c_1:Contract)(s_2:State)(dQ:Int)(eT:Int): (Int×(List Int))→Option ((List Int)⊕(List Int)):=aK (li c_1 s_2 dQ eT)
theorem zn (c_1:Contract)(s_2:State)(dQ:Int)(eT:Int): ∀a,Fin1 fun f=>li c_1 s_2 dQ eT f a:=by
 unfold li
 repeat first|intro _|exact aY|exact bx|apply bD|apply bh|apply bi|apply bo|apply bE
theorem EE (c_1:Contract)(s_2:State)(dQ:Int)(eT:Int)(x:Int×(List Int)):kI c_1 s_2 dQ eT x=li c_1 s_2 dQ eT (kI c_1 s_2 dQ eT) x:=bH (zn c_1 s_2 dQ eT) x
def BF (c_1:Contract)(s_2:State)(dQ:Int)(eT:Int):Option (List Int):=
 bf (ρ:=(List Int)) (kI c_1 s_2 dQ eT (0,[])) fun u16:(List Int)=>some u16
def BD (c_1:Contract)(s_2:State):Option (Int×Bool):=
 (uZ c_1 s_2).bind fun r3=>bif (!r3) then (some (0,false)) else ((BF c_1 s_2 (-1) (-1)).bind fun r4=>bif ((len r4)==0) then (some ((-1),true)) else ((aF r4 0).bind fun e5=>(aF s_2.Duties e5).bind fun e6=>some (e6.Due,true)))
def je (n_1:Int)(oe:Int)(lF:Int):Option Bool:=
 cf (bif (decide (n_1≥oe)) then (decide (n_1≤lF)) else false) fun u4:Bool=>some u4
def Kh (s_1:ac)(c_2:Int):Option Int:=
 (rD s_1 c_2).bind fun r3=>some r3
def Ke (s_1:ac)(bg:ac):Option Int:=
 cf (bif ((len bg)==0) then true else (bg==s_1)) fun u3:Bool=>bif u3 then (some 0) else (bif ((len bg)==1) then ((aF bg 0).bind fun c4=>(Kh s_1 (c4.toNat:Int)).bind fun r5=>some r5) else (bif (decide ((len bg)≥(len s_1))) then (some (-1)) else none))
def Hm (s_1:ac)(bg:ac):Option Int:=
 (Ke s_1 bg).bind fun r3=>some r3
def rN (s_1:ac)(bg:ac)(self:(ac×Int)→Option (Int⊕Unit))(x5:ac×Int):Option (Int⊕Unit):=
 (Hm x5.1 bg).bind fun r6=>bif (r6==(-1)) then (some (.inl x5.2)) else ((kS x5.1 (ai (r6+(len bg))) (len x5.1)).bind fun s7=>self (s7,(ai (x5.2+1))))
def N4 (s_1:ac)(bg:ac): (ac×Int)→Option (Int⊕Unit):=aK (rN s_1 bg)
theorem Ny (s_1:ac)(bg:ac): ∀a,Fin1 fun f=>rN s_1 bg f a:=by
 unfold rN
 repeat first|intro _|exact aY|exact bx|apply bD|apply bh|apply bi|apply bo|apply bE
def K8 (s_1:ac)(bg:ac):Option Int:=
 bif ((len bg)==0) then none else (bif ((len bg)==1) then ((aF bg 0).bind fun c3=>(xR s_1 (c3.toNat:Int)).bind fun r4=>some r4) else (bf (ρ:=Int) (N4 s_1 bg (s_1,0)) fun u8:Unit=>none))
def rO (s_1:ac)(dS:ac)(dx:Int)(n_4:Int)(u5:Int)(self:(ac×Int×(List ac))→Option ((List ac)⊕(ac×Int×(List ac))))(x7:ac×Int×(List ac)):Option ((List ac)⊕(ac×Int×(List ac))):=
 bif (decide (x7.2.1<(ai ((if (ai ((len s_1)+1))<u5 then (ai ((len s_1)+1)) else u5) - 1)))) then ((Hm x7.1 dS).bind fun r8=>bif (decide (r8<0)) then (some (.inr (x7.1,x7.2.1,x7.2.2))) else ((kS x7.1 0 (ai (r8+dx))).bind fun s9=>(aF x7.2.2 x7.2.1).bind fun e10=>(kS x7.1 (ai (r8+(len dS))) (len x7.1)).bind fun s11=>self (s11,(ai (x7.2.1+1)),(cX x7.2.2 x7.2.1 s9)))) else (some (.inr (x7.1,x7.2.1,x7.2.2)))
def yd (s_1:ac)(dS:ac)(dx:Int)(n_4:Int)(u5:Int):(ac×Int×(List ac))→Option ((List ac)⊕(ac×Int×(List ac))):=aK (rO s_1 dS dx n_4 u5)
theorem zI (s_1:ac)(dS:ac)(dx:Int)(n_4:Int)(u5:Int):∀a,Fin1 fun f=>rO s_1 dS dx n_4 u5 f a:=by
 unfold rO
 repeat first|intro _|exact aY|exact bx|apply bD|apply bh|apply bi|apply bo|apply bE
def La (s_1:ac)(dS:ac)(dx:Int)(n_4:Int):Option (List ac):=
 bif (n_4==0) then (some []) else (bif (dS==([]:ac)) then none else (bf (ρ:=(List ac)) (bif (decide (n_4<0)) then ((K8 s_1 dS).bind fun r16=>some (.inr (ai (r16+1)))) else (some (.inr n_4))) fun u5:Int=>(sd 16 [] (if (ai ((len s_1)+1))<u5 then (ai ((len s_1)+1)) else u5)).bind fun m6=>bf (ρ:=(List ac)) (yd s_1 dS dx n_4 u5 (s_1,0,m6)) fun u12:ac×Int×(List ac)=>(aF u12.2.2 u12.2.1).bind fun e13=>(jq (cX u12.2.2 u12.2.1 u12.1).length 0 (ai (u12.2.1+1))).bind fun s14=>(ju (cX u12.2.2 u12.2.1 u12.1) (0+Int.toNat (0)) (Int.toNat (ai (u12.2.1+1)) - Int.toNat (0))).bind fun p15=>some p15))
def Ca (s_1:ac)(dS:ac):Option (List ac):=
 (La s_1 dS 0 (-1)).bind fun r3=>some r3
def lg (s_1:List ac)(v_2:ac)(self:Int→Option (Int⊕Unit))(x3:Int):Option (Int⊕Unit):=
 bif (decide (x3<(len s_1))) then ((aF s_1 x3).bind fun e4=>bif (v_2==e4) then (some (.inl x3)) else (self (ai (x3+1)))) else (some (.inr ()))
def qK (s_1:List ac)(v_2:ac): Int→Option (Int⊕Unit):=aK (lg s_1 v_2)
theorem za (s_1:List ac)(v_2:ac): ∀a,Fin1 fun f=>lg s_1 v_2 f a:=by
 unfold lg
 repeat first|intro _|exact aY|exact bx|apply bD|apply bh|apply bi|apply bo|apply bE
theorem Ef (s_1:List ac)(v_2:ac)(x:Int):qK s_1 v_2 x=lg s_1 v_2 (qK s_1 v_2) x:=bH (za s_1 v_2) x
def Bt (s_1:List ac)(v_2:ac):Option Int:=
 bf (ρ:=Int) (qK s_1 v_2 0) fun u5:Unit=>some (-1)
def qR (s_1:List ac)(v_2:ac):Option Bool:=
 (Bt s_1 v_2).bind fun r3=>some (decide (r3≥0))
def oU (s_1:ac)(self:Int→Option (Bool⊕Unit))(x4:Int):Option (Bool⊕Unit):=
 bif (decide (x4<(len s_1))) then ((aF s_1 x4).bind fun c5=>cf (bif (decide ((c5.toNat:Int)<97)) then (cf (bif (decide ((c5.toNat:Int)<48)) then true else (decide ((c5.toNat:Int)>57))) fun u7:Bool=>u7) else (cf (bif (decide ((c5.toNat:Int)>122)) then (cf (bif (decide ((c5.toNat:Int)<48)) then true else (decide ((c5.toNat:Int)>57))) fun u9:Bool=>u9) else false) fun u8:Bool=>u8)) fun u6:Bool=>bif u6 then (some (.inl false)) else (self (ai (x4+1)))) else (some (.inr ()))
def wY (s_1:ac): Int→Option (Bool⊕Unit):=aK (oU s_1)
theorem Fu (s_1:ac): ∀a,Fin1 fun f=>oU s_1 f a:=by
 unfold oU
 repeat first|intro _|exact aY|exact bx|apply bD|apply bh|apply bi|apply bo|apply bE
theorem S8 (s_1:ac)(x:Int):wY s_1 x=oU s_1 (wY s_1) x:=bH (Fu s_1) x
def vO (s_1:ac):Option Bool:=
 (je (len s_1) 1 8).bind fun r2=>bf (ρ:=Bool) (bif (!r2) then (some (.inr true)) else ((aF s_1 0).bind fun c13=>bZ (ρ:=Bool) (bif (decide ((c13.toNat:Int)<97)) then (some (.inr true)) else ((aF s_1 0).bind fun c15=>some (.inr (decide ((c15.toNat:Int)>122))))) fun u14:Bool=>some (.inr u14))) fun u3:Bool=>bif u3 then (some false) else (bf (ρ:=Bool) (wY s_1 0) fun u10:Unit=>(Ca ([116,114,117,101,32,102,114,111,109,32,110,111,116,32,97,110,100,32,111,114,32,98,111,116,104,32,101,105,116,104,101,114,32,105,116,32,105,110]:ac) ([32]:ac)).bind fun r11=>(qR r11 s_1).bind fun r12=>some (!r12))
def mC (aw:List ac)(self:Int→Option (Bool⊕Unit))(x2:Int):Option (Bool⊕Unit):=
 bif (decide (x2<(len aw))) then ((aF aw x2).bind fun e3=>(vO e3).bind fun r4=>bZ (ρ:=Bool) (bif (!r4) then (some (.inr true)) else ((kS aw 0 x2).bind fun s6=>(qR s6 e3).bind fun r7=>some (.inr r7))) fun u5:Bool=>bif u5 then (some (.inl false)) else (self (ai (x2+1)))) else (some (.inr ()))
def xa (aw:List ac): Int→Option (Bool⊕Unit):=aK (mC aw)
theorem FS (aw:List ac): ∀a,Fin1 fun f=>mC aw f a:=by
 unfold mC
 repeat first|intro _|exact aY|exact bx|apply bD|apply bh|apply bi|apply bo|apply bE
theorem Ih (aw:List ac)(x:Int):xa aw x=mC aw (xa aw) x:=bH (FS aw) x
def Ld (aw:List ac):Option Bool:=
 bf (ρ:=Bool) (xa aw 0) fun u8:Unit=>(je (len aw) 2 4).bind fun r9=>some r9
def Tp (x_1:Clause)(a_2:ac):Option Bool:=
 some (x_1.Id==a_2)
def mX (s_1:List Clause)(f_2:ac)(self:Int→Option (Int⊕Unit))(x3:Int):Option (Int⊕Unit):=
 bif (decide (x3<(len s_1))) then ((aF s_1 x3).bind fun e4=>(Tp e4 f_2).bind fun r5=>bif r5 then (some (.inl x3)) else (self (ai (x3+1)))) else (some (.inr ()))
def th (s_1:List Clause)(f_2:ac): Int→Option (Int⊕Unit):=aK (mX s_1 f_2)
theorem yV (s_1:List Clause)(f_2:ac): ∀a,Fin1 fun f=>mX s_1 f_2 f a:=by
 unfold mX
 repeat first|intro _|exact aY|exact bx|apply bD|apply bh|apply bi|apply bo|apply bE
theorem OY (s_1:List Clause)(f_2:ac)(x:Int):th s_1 f_2 x=mX s_1 f_2 (th s_1 f_2) x:=bH (yV s_1 f_2) x
def Ha (s_1:List Clause)(f_2:ac):Option Int:=
 bf (ρ:=Int) (th s_1 f_2 0) fun u6:Unit=>some (-1)
def FT (c_1:Contract)(fb:ac):Option Int:=
 (Ha c_1.Clauses fb).bind fun r3=>some r3
def oD (gP:Int):Option Bool:=
 (je gP 0 36524).bind fun r2=>some r2
def lB (be:(Condition×Int)→Option Int)(c_1:Condition)(cE:Int)(self:(Int×Int)→Option (Int⊕Int))(x5:Int×Int):Option (Int⊕Int):=
 bif (decide (x5.2<(len c_1.Parts))) then ((aF c_1.Parts x5.2).bind fun e6=>(be (e6,x5.1)).bind fun r7=>bif (decide (r7<0)) then (some (.inl (-1))) else (self (r7,(ai (x5.2+1))))) else (some (.inr x5.1))
def mh (be:(Condition×Int)→Option Int)(c_1:Condition)(cE:Int): (Int×Int)→Option (Int⊕Int):=aK (lB be c_1 cE)
theorem FW (be:(Condition×Int)→Option Int)(c_1:Condition)(cE:Int): ∀a,Fin1 fun f=>lB be c_1 cE f a:=by
 unfold lB
 repeat first|intro _|exact aY|exact bx|apply bD|apply bh|apply bi|apply bo|apply bE
theorem Ii (be:(Condition×Int)→Option Int)(c_1:Condition)(cE:Int)(x:Int×Int):mh be c_1 cE x=lB be c_1 cE (mh be c_1 cE) x:=bH (FW be c_1 cE) x
def yf (be:(Condition×Int)→Option Int)(c_1:Condition)(cE:Int):Option Int:=
 bf (ρ:=Int) (bif (decide ((ai (cE+1))>15)) then (some (.inr true)) else ((je c_1.Op 1 6).bind fun r20=>bZ (ρ:=Int) (bif (!r20) then (some (.inr true)) else ((aF [(-1),0,0,0,1,2,2] c_1.Op).bind fun e22=>some (.inr ((len c_1.Parts) != e22)))) fun u21:Bool=>some (.inr u21))) fun u3:Bool=>bif u3 then (some (-1)) else (bf (ρ:=Int) (bif (!((c_1.Op==2)==(!(c_1.Name==([]:ac))))) then (some (.inr true)) else (bZ (ρ:=Int) (bif (c_1.Op==2) then ((vO c_1.Name).bind fun r10=>bZ (ρ:=Int) (bif (!r10) then (some (.inr true)) else (bZ (ρ:=Int) (bif (c_1.Op != 3) then (bZ (ρ:=Int) (bif (c_1.Day != 0) then (some (.inr true)) else ((oD c_1.Day).bind fun r14=>some (.inr (!r14)))) fun u13:Bool=>some (.inr u13)) else ((oD c_1.Day).bind fun r15=>some (.inr (!r15)))) fun u12:Bool=>some (.inr u12))) fun u11:Bool=>some (.inr u11)) else (bZ (ρ:=Int) (bif (c_1.Op != 3) then (bZ (ρ:=Int) (bif (c_1.Day != 0) then (some (.inr true)) else ((oD c_1.Day).bind fun r18=>some (.inr (!r18)))) fun u17:Bool=>some (.inr u17)) else ((oD c_1.Day).bind fun r19=>some (.inr (!r19)))) fun u16:Bool=>some (.inr u16))) fun u9:Bool=>some (.inr u9))) fun u4:Bool=>bif u4 then (some (-1)) else (bf (ρ:=Int) (mh be c_1 cE ((ai (cE+1)),0)) fun u8:Int=>some u8))
def mp (be:(Condition×Int)→Option Int)(x:Condition×Int):Option Int:=yf be x.1 x.2
def Tq (c_1:Condition)(cE:Int):Option Int:=aK mp (c_1,cE)
theorem YE:∀x,Fin1 fun be=>mp be x:=by
 unfold mp yf
 repeat first|intro _|exact aY|exact bx|exact jF|exact l4|exact iC|exact kg|exact i6|exact i7|apply bD|apply bh|apply bi|apply bo|apply bE|apply qs|unfold mh|unfold lB
theorem abE (c_1:Condition)(cE:Int):Tq c_1 cE=yf (aK mp) c_1 cE:=bH YE (c_1,cE)
def Kq (c_1:Condition):Option Bool:=
 (Tq c_1 0).bind fun r2=>some (decide (r2>0))
def Li (c_1:Contract)(i_2:Int):Option Bool:=
 (aF c_1.Clauses i_2).bind fun e3=>(vO e3.Id).bind fun r4=>bf (ρ:=Bool) (bif (!r4) then (some (.inr true)) else ((FT c_1 e3.Id).bind fun r23=>bZ (ρ:=Bool) (bif (r23 != i_2) then (some (.inr true)) else ((vO e3.Action).bind fun r25=>bZ (ρ:=Bool) (bif (!r25) then (some (.inr true)) else ((je e3.Kind 1 4).bind fun r27=>some (.inr (!r27)))) fun u26:Bool=>some (.inr u26))) fun u24:Bool=>some (.inr u24))) fun u5:Bool=>bif u5 then (some false) else ((je e3.Party 0 (ai ((len c_1.Parties) - 1))).bind fun r6=>bf (ρ:=Bool) (bif (!r6) then (some (.inr true)) else ((je e3.Other 0 (ai ((len c_1.Parties) - 1))).bind fun r19=>bZ (ρ:=Bool) (bif (!r19) then (some (.inr true)) else (bZ (ρ:=Bool) (bif (e3.Party==e3.Other) then (some (.inr true)) else ((Kq e3.When).bind fun r22=>some (.inr (!r22)))) fun u21:Bool=>some (.inr u21))) fun u20:Bool=>some (.inr u20))) fun u7:Bool=>bif u7 then (some false) else ((je e3.Amount 0 1000000).bind fun r8=>bf (ρ:=Bool) (bif (!r8) then (some (.inr true)) else ((je e3.Within 0 400).bind fun r15=>cf (bif (!r15) then true else (cf (bif (e3.Kind != 1) then (cf (bif (e3.Amount != 0) then true else (e3.Within != 0)) fun u18:Bool=>u18) else false) fun u17:Bool=>u17)) fun u16:Bool=>some (.inr u16))) fun u9:Bool=>bif u9 then (some false) else (bif (e3.Repair==([]:ac)) then (some true) else ((FT c_1 e3.Repair).bind fun r10=>bf (ρ:=Bool) (bif (e3.Kind != 3) then (bZ (ρ:=Bool) (bif (decide (r10≥0)) then (bZ (ρ:=Bool) (bif (r10 != i_2) then ((aF c_1.Clauses r10).bind fun e14=>some (.inr (e14.Kind==1))) else (some (.inr false))) fun u13:Bool=>some (.inr u13)) else (some (.inr false))) fun u12:Bool=>some (.inr u12)) else (some (.inr false))) fun u11:Bool=>some u11))))
def lA (cB:(Condition×(List ac))→Option (List ac))(c_3:Condition)(dI:List ac)(self:(Int×(List ac))→Option ((List ac)⊕(List ac)))(x4:Int×(List ac)):Option ((List ac)⊕(List ac)):=
 bif (decide (x4.1<(len c_3.Parts))) then ((aF c_3.Parts x4.1).bind fun e5=>(cB (e5,x4.2)).bind fun r6=>self ((ai (x4.1+1)),r6)) else (some (.inr x4.2))
def nR (cB:(Condition×(List ac))→Option (List ac))(c_3:Condition)(dI:List ac): (Int×(List ac))→Option ((List ac)⊕(List ac)):=aK (lA cB c_3 dI)
theorem FQ (cB:(Condition×(List ac))→Option (List ac))(c_3:Condition)(dI:List ac): ∀a,Fin1 fun f=>lA cB c_3 dI f a:=by
 unfold lA
 repeat first|intro _|exact aY|exact bx|apply bD|apply bh|apply bi|apply bo|apply bE
theorem Ig (cB:(Condition×(List ac))→Option (List ac))(c_3:Condition)(dI:List ac)(x:Int×(List ac)):nR cB c_3 dI x=lA cB c_3 dI (nR cB c_3 dI) x:=bH (FQ cB c_3 dI) x
def ye (cB:(Condition×(List ac))→Option (List ac))(c_3:Condition)(dI:List ac):Option (List ac):=
 bf (ρ:=(List ac)) (bif (c_3.Op==2) then ((iz 16 dI [c_3.Name]).bind fun a8=>some (.inr a8)) else (some (.inr dI))) fun u3:(List ac)=>bf (ρ:=(List ac)) (nR cB c_3 dI (0,u3)) fun u7:(List ac)=>some u7
def nQ (cB:(Condition×(List ac))→Option (List ac))(x:Condition×(List ac)):Option (List ac):=ye cB x.1 x.2
def Tm (c_3:Condition)(dI:List ac):Option (List ac):=aK nQ (c_3,dI)
theorem Yz:∀x,Fin1 fun cB=>nQ cB x:=by
 unfold nQ ye
 repeat first|intro _|exact aY|exact bx|exact jF|exact l4|exact iC|exact kg|exact i6|exact i7|apply bD|apply bh|apply bi|apply bo|apply bE|apply qs|unfold nR|unfold lA
theorem abD (c_3:Condition)(dI:List ac):Tm c_3 dI=ye (aK nQ) c_3 dI:=bH Yz (c_3,dI)
def lf (s_2:List ac)(x2:Int)(self:(Int×Int×(List ac))→Option ((List ac)⊕(Int×(List ac))))(x6:Int×Int×(List ac)):Option ((List ac)⊕(Int×(List ac))):=
 bif (decide (x6.2.1<(((Int.toNat (len s_2) - Int.toNat x2):Nat):Int))) then ((vp x6.2.2 (0+Int.toNat x2) (Int.toNat (len s_2) - Int.toNat x2) x6.2.1).bind fun e7=>(vp x6.2.2 (0+Int.toNat x2) (Int.toNat (len s_2) - Int.toNat x2) (ai (x6.2.1 - 1))).bind fun e8=>bZ (ρ:=(List ac)) (bif (!(e7==e8)) then ((vp x6.2.2 (0+Int.toNat x2) (Int.toNat (len s_2) - Int.toNat x2) x6.2.1).bind fun e10=>(aF x6.2.2 x6.1).bind fun e11=>some (.inr ((ai (x6.1+1)),(cX x6.2.2 x6.1 e10)))) else (some (.inr (x6.1,x6.2.2)))) fun u9:Int×(List ac)=>self (u9.1,(ai (x6.2.1+1)),u9.2)) else (some (.inr (x6.1,x6.2.2)))
def kG (s_2:List ac)(x2:Int):(Int×Int×(List ac))→Option ((List ac)⊕(Int×(List ac))):=aK (lf s_2 x2)
theorem yU (s_2:List ac)(x2:Int):∀a,Fin1 fun f=>lf s_2 x2 f a:=by
 unfold lf
 repeat first|intro _|exact aY|exact bx|apply bD|apply bh|apply bi|apply bo|apply bE
theorem DR (s_2:List ac)(x2:Int)(x:Int×Int×(List ac)):kG s_2 x2 x=lf s_2 x2 (kG s_2 x2) x:=bH (yU s_2 x2) x
def ld (s_2:List ac)(self:Int→Option ((List ac)⊕(List ac)))(x2:Int):Option ((List ac)⊕(List ac)):=
 bif (decide (x2<(len s_2))) then ((aF s_2 x2).bind fun e3=>(aF s_2 (ai (x2 - 1))).bind fun e4=>bif (e3==e4) then ((jq s_2.length x2 (len s_2)).bind fun s5=>bZ (ρ:=(List ac)) (kG s_2 x2 (x2,1,s_2)) fun u15:Int×(List ac)=>(jq u15.2.length u15.1 (len u15.2)).bind fun s16=>(xj u15.2 (0+Int.toNat u15.1) (Int.toNat (len u15.2) - Int.toNat u15.1) []).bind fun k17=>(jq k17.length 0 u15.1).bind fun s18=>(ju k17 (0+Int.toNat (0)) (Int.toNat u15.1 - Int.toNat (0))).bind fun p19=>some (.inl p19)) else (self (ai (x2+1)))) else (some (.inr s_2))
def qJ (s_2:List ac): Int→Option ((List ac)⊕(List ac)):=aK (ld s_2)
theorem yT (s_2:List ac): ∀a,Fin1 fun f=>ld s_2 f a:=by
 unfold ld
 repeat first|intro _|exact aY|exact bx|apply bD|apply bh|apply bi|apply bo|apply bE
theorem DQ (s_2:List ac)(x:Int):qJ s_2 x=ld s_2 (qJ s_2) x:=bH (yT s_2) x
def Bi (s_2:List ac):Option (List ac):=
 bif (decide ((len s_2)<2)) then (some s_2) else (bf (ρ:=(List ac)) (qJ s_2 1) fun u20:(List ac)=>some u20)
def An (jI:List ac):Option (List ac):=
 (uC jI).bind fun r2=>bif Nat.beq r2.length jI.length then ((Bi r2).bind fun r4=>some r4) else none
def mE (c_1:Contract)(self:(Int×(List ac))→Option ((List ac)⊕(List ac)))(x2:Int×(List ac)):Option ((List ac)⊕(List ac)):=
 bif (decide (x2.1<(len c_1.Clauses))) then ((aF c_1.Clauses x2.1).bind fun e3=>(iz 16 x2.2 [e3.Action]).bind fun a4=>(Tm e3.When a4).bind fun r5=>self ((ai (x2.1+1)),r5)) else (some (.inr x2.2))
def pK (c_1:Contract): (Int×(List ac))→Option ((List ac)⊕(List ac)):=aK (mE c_1)
theorem FZ (c_1:Contract): ∀a,Fin1 fun f=>mE c_1 f a:=by
 unfold mE
 repeat first|intro _|exact aY|exact bx|apply bD|apply bh|apply bi|apply bo|apply bE
theorem Ik (c_1:Contract)(x:Int×(List ac)):pK c_1 x=mE c_1 (pK c_1) x:=bH (FZ c_1) x
def zK (c_1:Contract):Option (List ac):=
 bf (ρ:=(List ac)) (pK c_1 (0,[])) fun u6:(List ac)=>(An u6).bind fun r7=>some r7
def mB (c_1:Contract)(self:Int→Option (Bool⊕Unit))(x4:Int):Option (Bool⊕Unit):=
 bif (decide (x4<(len c_1.Clauses))) then ((Li c_1 x4).bind fun r5=>bif (!r5) then (some (.inl false)) else (self (ai (x4+1)))) else (some (.inr ()))
def nL (c_1:Contract): Int→Option (Bool⊕Unit):=aK (mB c_1)
theorem Em (c_1:Contract): ∀a,Fin1 fun f=>mB c_1 f a:=by
 unfold mB
 repeat first|intro _|exact aY|exact bx|apply bD|apply bh|apply bi|apply bo|apply bE
theorem H7 (c_1:Contract)(x:Int):nL c_1 x=mB c_1 (nL c_1) x:=bH (Em c_1) x
def KI (c_1:Contract):Option Bool:=
 (Ld c_1.Parties).bind fun r2=>bf (ρ:=Bool) (bif (!r2) then (some (.inr true)) else ((je (len c_1.Clauses) 1 12).bind fun r8=>some (.inr (!r8)))) fun u3:Bool=>bif u3 then (some false) else (bf (ρ:=Bool) (nL c_1 0) fun u6:Unit=>(zK c_1).bind fun r7=>some (decide ((len r7)≤16)))
def mF (b8:List ac)(self:Int→Option (Bool⊕Unit))(x2:Int):Option (Bool⊕Unit):=
 bif (decide (x2<(len b8))) then ((aF b8 x2).bind fun e3=>(vO e3).bind fun r4=>bZ (ρ:=Bool) (bif (!r4) then (some (.inr true)) else (bZ (ρ:=Bool) (bif (decide (x2>0)) then ((aF b8 (ai (x2 - 1))).bind fun e7=>some (.inr (Op.bytesLess e3 e7||e3==e7))) else (some (.inr false))) fun u6:Bool=>some (.inr u6))) fun u5:Bool=>bif u5 then (some (.inl false)) else (self (ai (x2+1)))) else (some (.inr ()))
def nS (b8:List ac): Int→Option (Bool⊕Unit):=aK (mF b8)
theorem F2 (b8:List ac): ∀a,Fin1 fun f=>mF b8 f a:=by
 unfold mF
 repeat first|intro _|exact aY|exact bx|apply bD|apply bh|apply bi|apply bo|apply bE
theorem Il (b8:List ac)(x:Int):nS b8 x=mF b8 (nS b8) x:=bH (F2 b8) x
def Lq (b8:List ac):Option Bool:=
 bf (ρ:=Bool) (nS b8 0) fun u8:Unit=>some (decide ((len b8)≤16))
def Ls (f_1:ac)(a_2:List ac):Option Bool:=
 (qR a_2 f_1).bind fun r3=>some (!r3)
def nc (s_1:List ac)(f_2:(List ac))(self:Int→Option (Int⊕Unit))(x3:Int):Option (Int⊕Unit):=
 bif (decide (x3<(len s_1))) then ((aF s_1 x3).bind fun e4=>(Ls e4 f_2).bind fun r5=>bif r5 then (some (.inl x3)) else (self (ai (x3+1)))) else (some (.inr ()))
def tp (s_1:List ac)(f_2:(List ac)): Int→Option (Int⊕Unit):=aK (nc s_1 f_2)
theorem yZ (s_1:List ac)(f_2:(List ac)): ∀a,Fin1 fun f=>nc s_1 f_2 f a:=by
 unfold nc
 repeat first|intro _|exact aY|exact bx|apply bD|apply bh|apply bi|apply bo|apply bE
theorem O2 (s_1:List ac)(f_2:(List ac))(x:Int):tp s_1 f_2 x=nc s_1 f_2 (tp s_1 f_2) x:=bH (yZ s_1 f_2) x
def He (s_1:List ac)(f_2:(List ac)):Option Int:=
 bf (ρ:=Int) (tp s_1 f_2 0) fun u6:Unit=>some (-1)
def G9 (s_1:List ac)(f_2:(List ac)):Option Bool:=
 (He s_1 f_2).bind fun r3=>some (decide (r3≥0))
def rG (aw:List Int)(self:(Int×Int)→Option (Int⊕Int))(x2:Int×Int):Option (Int⊕Int):=
 bif (decide (x2.2<(len aw))) then ((aF aw x2.2).bind fun e3=>self ((ai (x2.1+e3)),(ai (x2.2+1)))) else (some (.inr x2.1))
def G2 (aw:List Int): (Int×Int)→Option (Int⊕Int):=aK (rG aw)
theorem MF (aw:List Int): ∀a,Fin1 fun f=>rG aw f a:=by
 unfold rG
 repeat first|intro _|exact aY|exact bx|apply bD|apply bh|apply bi|apply bo|apply bE
def vZ (aw:List Int):Option Int:=
 bf (ρ:=Int) (G2 aw (0,0)) fun u4:Int=>some u4
def Lo (x_1:Clause)(a_2:Contract)(a_3:Int):Option Bool:=
 (aF a_2.Clauses a_3).bind fun e4=>some (x_1.Repair==e4.Id)
def mY (s_1:List Clause)(f_2:Contract×Int)(self:Int→Option (Int⊕Unit))(x3:Int):Option (Int⊕Unit):=
 bif (decide (x3<(len s_1))) then ((aF s_1 x3).bind fun e4=>(Lo e4 f_2.1 f_2.2).bind fun r5=>bif r5 then (some (.inl x3)) else (self (ai (x3+1)))) else (some (.inr ()))
def tj (s_1:List Clause)(f_2:Contract×Int): Int→Option (Int⊕Unit):=aK (mY s_1 f_2)
theorem yW (s_1:List Clause)(f_2:Contract×Int): ∀a,Fin1 fun f=>mY s_1 f_2 f a:=by
 unfold mY
 repeat first|intro _|exact aY|exact bx|apply bD|apply bh|apply bi|apply bo|apply bE
theorem OZ (s_1:List Clause)(f_2:Contract×Int)(x:Int):tj s_1 f_2 x=mY s_1 f_2 (tj s_1 f_2) x:=bH (yW s_1 f_2) x
def Hb (s_1:List Clause)(f_2:Contract×Int):Option Int:=
 bf (ρ:=Int) (tj s_1 f_2 0) fun u6:Unit=>some (-1)
def G6 (s_1:List Clause)(f_2:Contract×Int):Option Bool:=
 (Hb s_1 (f_2.1,f_2.2)).bind fun r3=>some (decide (r3≥0))
def Lm (c_1:Contract)(i_2:Int):Option Bool:=
 (G6 c_1.Clauses (c_1,i_2)).bind fun r3=>some r3
def N7 (jL:Duty)(a_2:Duty):Option Bool:=
 some (jL.Clause==a_2.Clause)
def mZ (s_1:List Duty)(f_2:Duty)(self:Int→Option (Int⊕Unit))(x3:Int):Option (Int⊕Unit):=
 bif (decide (x3<(len s_1))) then ((aF s_1 x3).bind fun e4=>(N7 e4 f_2).bind fun r5=>bif r5 then (some (.inl x3)) else (self (ai (x3+1)))) else (some (.inr ()))
def tk (s_1:List Duty)(f_2:Duty): Int→Option (Int⊕Unit):=aK (mZ s_1 f_2)
theorem yX (s_1:List Duty)(f_2:Duty): ∀a,Fin1 fun f=>mZ s_1 f_2 f a:=by
 unfold mZ
 repeat first|intro _|exact aY|exact bx|apply bD|apply bh|apply bi|apply bo|apply bE
theorem O0 (s_1:List Duty)(f_2:Duty)(x:Int):tk s_1 f_2 x=mZ s_1 f_2 (tk s_1 f_2) x:=bH (yX s_1 f_2) x
def Hc (s_1:List Duty)(f_2:Duty):Option Int:=
 bf (ρ:=Int) (tk s_1 f_2 0) fun u6:Unit=>some (-1)
def G7 (s_1:List Duty)(f_2:Duty):Option Bool:=
 (Hc s_1 f_2).bind fun r3=>some (decide (r3≥0))
def Lp (c_1:Contract)(s_2:State)(i_3:Int):Option Bool:=
 (aF s_2.Duties i_3).bind fun e4=>(je e4.Clause 0 (ai ((len c_1.Clauses) - 1))).bind fun r5=>bf (ρ:=Bool) (bif (!r5) then (some (.inr true)) else ((aF c_1.Clauses e4.Clause).bind fun e18=>bZ (ρ:=Bool) (bif (e18.Kind != 1) then (some (.inr true)) else ((je e4.Since 0 s_2.Day).bind fun r20=>some (.inr (!r20)))) fun u19:Bool=>some (.inr u19))) fun u6:Bool=>bif u6 then (some false) else ((aF c_1.Clauses e4.Clause).bind fun e7=>bf (ρ:=Bool) (bif (e4.Due != (ai (e4.Since+e7.Within))) then (some (.inr true)) else ((oD e4.Due).bind fun r14=>bZ (ρ:=Bool) (bif (!r14) then (some (.inr true)) else (bZ (ρ:=Bool) (bif (decide (i_3>0)) then ((aF s_2.Duties (ai (i_3 - 1))).bind fun e17=>some (.inr (decide (e4.Since<e17.Since)))) else (some (.inr false))) fun u16:Bool=>some (.inr u16))) fun u15:Bool=>some (.inr u15))) fun u8:Bool=>bif u8 then (some false) else ((Lm c_1 e4.Clause).bind fun r9=>bf (ρ:=Bool) (bif (!r9) then ((kS s_2.Duties 0 i_3).bind fun s12=>(G7 s12 e4).bind fun r13=>some (.inr r13)) else (some (.inr false))) fun u10:Bool=>bif u10 then (some false) else (bif (e4.Status==1) then (cf (bif (decide (e4.Due≥s_2.Day)) then (!s_2.Over) else false) fun u11:Bool=>some u11) else (bif (e4.Status==2) then (some true) else (bif (e4.Status==3) then (some (decide (e4.Due<s_2.Day))) else (bif (e4.Status==4) then (some s_2.Over) else (some false)))))))
def N6 (x_1:Int):Option Bool:=
 (je x_1 (-1000000000) 1000000000).bind fun r2=>some r2
def Al (b_1:Int):Option Bool:=
 (N6 b_1).bind fun r2=>some (!r2)
def na (s_1:List Int)(f_2:Unit)(self:Int→Option (Int⊕Unit))(x3:Int):Option (Int⊕Unit):=
 bif (decide (x3<(len s_1))) then ((aF s_1 x3).bind fun e4=>(Al e4).bind fun r5=>bif r5 then (some (.inl x3)) else (self (ai (x3+1)))) else (some (.inr ()))
def tn (s_1:List Int)(f_2:Unit): Int→Option (Int⊕Unit):=aK (na s_1 f_2)
theorem yY (s_1:List Int)(f_2:Unit): ∀a,Fin1 fun f=>na s_1 f_2 f a:=by
 unfold na
 repeat first|intro _|exact aY|exact bx|apply bD|apply bh|apply bi|apply bo|apply bE
theorem O1 (s_1:List Int)(f_2:Unit)(x:Int):tn s_1 f_2 x=na s_1 f_2 (tn s_1 f_2) x:=bH (yY s_1 f_2) x
def Hd (s_1:List Int)(f_2:Unit):Option Int:=
 bf (ρ:=Int) (tn s_1 f_2 0) fun u6:Unit=>some (-1)
def G8 (s_1:List Int)(f_2:Unit):Option Bool:=
 (Hd s_1 ()).bind fun r3=>some (decide (r3≥0))
def mG (c_1:Contract)(s_2:State)(self:Int→Option (Bool⊕Unit))(x7:Int):Option (Bool⊕Unit):=
 bif (decide (x7<(len s_2.Duties))) then ((Lp c_1 s_2 x7).bind fun r8=>bif (!r8) then (some (.inl false)) else (self (ai (x7+1)))) else (some (.inr ()))
def pL (c_1:Contract)(s_2:State): Int→Option (Bool⊕Unit):=aK (mG c_1 s_2)
theorem F3 (c_1:Contract)(s_2:State): ∀a,Fin1 fun f=>mG c_1 s_2 f a:=by
 unfold mG
 repeat first|intro _|exact aY|exact bx|apply bD|apply bh|apply bi|apply bo|apply bE
theorem Im (c_1:Contract)(s_2:State)(x:Int):pL c_1 s_2 x=mG c_1 s_2 (pL c_1 s_2) x:=bH (F3 c_1 s_2) x
def Lr (c_1:Contract)(s_2:State):Option Bool:=
 (zK c_1).bind fun r3=>(oD s_2.Day).bind fun r4=>bf (ρ:=Bool) (bif (!r4) then (some (.inr true)) else ((Lq s_2.Facts).bind fun r13=>bZ (ρ:=Bool) (bif (!r13) then (some (.inr true)) else ((G9 s_2.Facts r3).bind fun r15=>some (.inr r15))) fun u14:Bool=>some (.inr u14))) fun u5:Bool=>bif u5 then (some false) else (bf (ρ:=Bool) (bif (decide ((len s_2.Duties)>24)) then (some (.inr true)) else (bZ (ρ:=Bool) (bif ((len s_2.Balances) != (len c_1.Parties)) then (some (.inr true)) else ((vZ s_2.Balances).bind fun r12=>some (.inr (r12 != 0)))) fun u11:Bool=>some (.inr u11))) fun u6:Bool=>bif u6 then (some false) else (bf (ρ:=Bool) (pL c_1 s_2 0) fun u9:Unit=>(G8 s_2.Balances ()).bind fun r10=>some (!r10)))
def Ie (c_1:Contract)(s_2:State):Option Bool:=
 (KI c_1).bind fun r3=>bf (ρ:=Bool) (bif r3 then ((Lr c_1 s_2).bind fun r5=>some (.inr r5)) else (some (.inr false))) fun u4:Bool=>some u4
def N5 (d_1:Duty)(x_2:Clause):Option Bool:=
 some true
def Kb (x_1:Int):Option Bool:=
 some (x_1 != x_1)
def Ka (x_1:Int)(y_2:Int):Option Int:=
 (Kb x_1).bind fun r3=>(Kb y_2).bind fun r4=>bif r3 then (bif r4 then (some 0) else (some (-1))) else (bif r4 then (some 1) else (bif (decide (x_1<y_2)) then (some (-1)) else (bif (decide (x_1>y_2)) then (some 1) else (some 0))))
def zJ (i_1:Int)(k_2:Int)(a_3:State):Option Int:=
 (aF a_3.Duties i_1).bind fun e4=>(aF a_3.Duties k_2).bind fun e5=>(Ka e4.Due e5.Due).bind fun r6=>some r6
def jR (cl:List Int)(et:Int)(eD:Int)(cI:State)(x5:Int×Int×Int×(List Int))(self:(Int×(List Int))→Option ((List Int)⊕(List Int)))(x6:Int×(List Int)):Option ((List Int)⊕(List Int)):=
 bZ (ρ:=(List Int)) (bif (decide (x6.1>x5.1)) then ((aF x6.2 x6.1).bind fun e18=>(aF x6.2 (ai (x6.1 - 1))).bind fun e19=>(zJ e18 e19 cI).bind fun r20=>some (.inr (decide (r20<0)))) else (some (.inr false))) fun u7:Bool=>bif u7 then ((aF x6.2 (ai (x6.1 - 1))).bind fun e8=>(aF x6.2 x6.1).bind fun e9=>(aF x6.2 x6.1).bind fun e10=>(aF (cX x6.2 x6.1 e8) (ai (x6.1 - 1))).bind fun e13=>cf (cX (cX x6.2 x6.1 e8) (ai (x6.1 - 1)) e9) fun rw14:List Int=>self ((ai (x6.1 - 1)),rw14)) else (some (.inr x6.2))
def kH (cl:List Int)(et:Int)(eD:Int)(cI:State)(x5:Int×Int×Int×(List Int)):(Int×(List Int))→Option ((List Int)⊕(List Int)):=aK (jR cl et eD cI x5)
theorem zc (cl:List Int)(et:Int)(eD:Int)(cI:State)(x5:Int×Int×Int×(List Int)):∀a,Fin1 fun f=>jR cl et eD cI x5 f a:=by
 unfold jR
 repeat first|intro _|exact aY|exact bx|apply bD|apply bh|apply bi|apply bo|apply bE
theorem uL (cl:List Int)(et:Int)(eD:Int)(cI:State)(x5:Int×Int×Int×(List Int))(x:Int×(List Int)):kH cl et eD cI x5 x=jR cl et eD cI x5 (kH cl et eD cI x5) x:=bH (zc cl et eD cI x5) x
def jQ (cl:List Int)(et:Int)(eD:Int)(cI:State)(self:(Int×Int×Int×(List Int))→Option ((List Int)⊕(List Int)))(x5:Int×Int×Int×(List Int)):Option ((List Int)⊕(List Int)):=
 bif (decide (x5.2.2.1<x5.2.1)) then (bZ (ρ:=(List Int)) (kH cl et eD cI x5 (x5.2.2.1,x5.2.2.2)) fun u21:(List Int)=>self (x5.1,x5.2.1,(ai (x5.2.2.1+1)),u21)) else (some (.inr x5.2.2.2))
def lS (cl:List Int)(et:Int)(eD:Int)(cI:State): (Int×Int×Int×(List Int))→Option ((List Int)⊕(List Int)):=aK (jQ cl et eD cI)
theorem zb (cl:List Int)(et:Int)(eD:Int)(cI:State): ∀a,Fin1 fun f=>jQ cl et eD cI f a:=by
 unfold jQ
 repeat first|intro _|exact aY|exact bx|apply bD|apply bh|apply bi|apply bo|apply bE
theorem uK (cl:List Int)(et:Int)(eD:Int)(cI:State)(x:Int×Int×Int×(List Int)):lS cl et eD cI x=jQ cl et eD cI (lS cl et eD cI) x:=bH (zb cl et eD cI) x
def qT (cl:List Int)(et:Int)(eD:Int)(cI:State):Option (List Int):=
 bf (ρ:=(List Int)) (lS cl et eD cI (et,eD,(ai (et+1)),cl)) fun u22:(List Int)=>bif Nat.beq u22.length cl.length then (some u22) else none
def lh (d8:List Int)(eN:Int)(fB:Int)(gJ:Int)(fm:State)(self:(Int×(List Int))→Option ((List Int)⊕(List Int)))(x6:Int×(List Int)):Option ((List Int)⊕(List Int)):=
 bif (decide (x6.1<gJ)) then ((aF x6.2 (ai (fB+x6.1))).bind fun e7=>(aF x6.2 (ai (eN+x6.1))).bind fun e8=>(aF x6.2 (ai (eN+x6.1))).bind fun e9=>(aF (cX x6.2 (ai (eN+x6.1)) e7) (ai (fB+x6.1))).bind fun e12=>cf (cX (cX x6.2 (ai (eN+x6.1)) e7) (ai (fB+x6.1)) e8) fun rw13:List Int=>self ((ai (x6.1+1)),rw13)) else (some (.inr x6.2))
def lT (d8:List Int)(eN:Int)(fB:Int)(gJ:Int)(fm:State): (Int×(List Int))→Option ((List Int)⊕(List Int)):=aK (lh d8 eN fB gJ fm)
theorem zh (d8:List Int)(eN:Int)(fB:Int)(gJ:Int)(fm:State): ∀a,Fin1 fun f=>lh d8 eN fB gJ fm f a:=by
 unfold lh
 repeat first|intro _|exact aY|exact bx|apply bD|apply bh|apply bi|apply bo|apply bE
theorem Eu (d8:List Int)(eN:Int)(fB:Int)(gJ:Int)(fm:State)(x:Int×(List Int)):lT d8 eN fB gJ fm x=lh d8 eN fB gJ fm (lT d8 eN fB gJ fm) x:=bH (zh d8 eN fB gJ fm) x
def uN (d8:List Int)(eN:Int)(fB:Int)(gJ:Int)(fm:State):Option (List Int):=
 bf (ρ:=(List Int)) (lT d8 eN fB gJ fm (0,d8)) fun u17:(List Int)=>bif Nat.beq u17.length d8.length then (some u17) else none
def nf (eC:List Int)(a_9:Int)(eJ:Int)(gq:Int)(d3:State)(self:(Int×Int×(List Int))→Option ((List Int)⊕(Int×Int×(List Int))))(x6:Int×Int×(List Int)):Option ((List Int)⊕(Int×Int×(List Int))):=
 bif (x6.1 != x6.2.1) then (bZ (ρ:=(List Int)) (bif (decide (x6.1>x6.2.1)) then ((uN x6.2.2 (ai (eJ - x6.1)) eJ x6.2.1 d3).bind fun r8=>bif Nat.beq r8.length x6.2.2.length then (some (.inr ((ai (x6.1 - x6.2.1)),x6.2.1,r8))) else none) else ((uN x6.2.2 (ai (eJ - x6.1)) (ai ((ai (eJ+x6.2.1)) - x6.1)) x6.1 d3).bind fun r10=>bif Nat.beq r10.length x6.2.2.length then (some (.inr (x6.1,(ai (x6.2.1 - x6.1)),r10))) else none)) fun u7:Int×Int×(List Int)=>self (u7.1,u7.2.1,u7.2.2)) else (some (.inr (eJ,x6.1,x6.2.2)))
def tq (eC:List Int)(a_9:Int)(eJ:Int)(gq:Int)(d3:State): (Int×Int×(List Int))→Option ((List Int)⊕(Int×Int×(List Int))):=aK (nf eC a_9 eJ gq d3)
theorem zd (eC:List Int)(a_9:Int)(eJ:Int)(gq:Int)(d3:State): ∀a,Fin1 fun f=>nf eC a_9 eJ gq d3 f a:=by
 unfold nf
 repeat first|intro _|exact aY|exact bx|apply bD|apply bh|apply bi|apply bo|apply bE
theorem O4 (eC:List Int)(a_9:Int)(eJ:Int)(gq:Int)(d3:State)(x:Int×Int×(List Int)):tq eC a_9 eJ gq d3 x=nf eC a_9 eJ gq d3 (tq eC a_9 eJ gq d3) x:=bH (zd eC a_9 eJ gq d3) x
def wx (eC:List Int)(a_9:Int)(eJ:Int)(gq:Int)(d3:State):Option (List Int):=
 bf (ρ:=(List Int)) (tq eC a_9 eJ gq d3 ((ai (eJ - a_9)),(ai (gq - eJ)),eC)) fun u12:Int×Int×(List Int)=>(uN u12.2.2 (ai (u12.1 - u12.2.1)) u12.1 u12.2.1 d3).bind fun r13=>bif Nat.beq r13.length u12.2.2.length then (bif Nat.beq r13.length eC.length then (some r13) else none) else none
def iU (ay:((List Int)×Int×Int×Int×State)→Option (List Int))(al:List Int)(aP:Int)(aQ:Int)(aZ:Int)(aD:State)(self:(Int×Int)→Option ((List Int)⊕(Int×Int×(List Int))))(x6:Int×Int):Option ((List Int)⊕(Int×Int×(List Int))):=
 bif (decide (x6.1<x6.2)) then ((aF al (IntKind.i64.wrap (dY .u64 (IntKind.u64.wrap (ai (x6.1+x6.2))) 1))).bind fun e7=>(aF al aP).bind fun e8=>(zJ e7 e8 aD).bind fun r9=>cf (bif (decide (r9<0)) then ((ai ((IntKind.i64.wrap (dY .u64 (IntKind.u64.wrap (ai (x6.1+x6.2))) 1))+1)),x6.2) else (x6.1,(IntKind.i64.wrap (dY .u64 (IntKind.u64.wrap (ai (x6.1+x6.2))) 1)))) fun u10:Int×Int=>self (u10.1,u10.2)) else (some (.inr (aP,x6.1,al)))
def oP (ay:((List Int)×Int×Int×Int×State)→Option (List Int))(al:List Int)(aP:Int)(aQ:Int)(aZ:Int)(aD:State): (Int×Int)→Option ((List Int)⊕(Int×Int×(List Int))):=aK (iU ay al aP aQ aZ aD)
theorem zi (ay:((List Int)×Int×Int×Int×State)→Option (List Int))(al:List Int)(aP:Int)(aQ:Int)(aZ:Int)(aD:State): ∀a,Fin1 fun f=>iU ay al aP aQ aZ aD f a:=by
 unfold iU
 repeat first|intro _|exact aY|exact bx|apply bD|apply bh|apply bi|apply bo|apply bE
theorem Ev (ay:((List Int)×Int×Int×Int×State)→Option (List Int))(al:List Int)(aP:Int)(aQ:Int)(aZ:Int)(aD:State)(x:Int×Int):oP ay al aP aQ aZ aD x=iU ay al aP aQ aZ aD (oP ay al aP aQ aZ aD) x:=bH (zi ay al aP aQ aZ aD) x
def iV (ay:((List Int)×Int×Int×Int×State)→Option (List Int))(al:List Int)(aP:Int)(aQ:Int)(aZ:Int)(aD:State)(u11:Int×Int×(List Int))(self:(Int×(List Int))→Option ((List Int)⊕(List Int)))(x12:Int×(List Int)):Option ((List Int)⊕(List Int)):=
 bif (decide (x12.1<(ai (u11.2.1 - 1)))) then ((aF x12.2 (ai (x12.1+1))).bind fun e13=>(aF x12.2 x12.1).bind fun e14=>(aF x12.2 x12.1).bind fun e15=>(aF (cX x12.2 x12.1 e13) (ai (x12.1+1))).bind fun e18=>cf (cX (cX x12.2 x12.1 e13) (ai (x12.1+1)) e14) fun rw19:List Int=>self ((ai (x12.1+1)),rw19)) else (some (.inr x12.2))
def jw (ay:((List Int)×Int×Int×Int×State)→Option (List Int))(al:List Int)(aP:Int)(aQ:Int)(aZ:Int)(aD:State)(u11:Int×Int×(List Int)):(Int×(List Int))→Option ((List Int)⊕(List Int)):=aK (iV ay al aP aQ aZ aD u11)
theorem zj (ay:((List Int)×Int×Int×Int×State)→Option (List Int))(al:List Int)(aP:Int)(aQ:Int)(aZ:Int)(aD:State)(u11:Int×Int×(List Int)):∀a,Fin1 fun f=>iV ay al aP aQ aZ aD u11 f a:=by
 unfold iV
 repeat first|intro _|exact aY|exact bx|apply bD|apply bh|apply bi|apply bo|apply bE
theorem Ew (ay:((List Int)×Int×Int×Int×State)→Option (List Int))(al:List Int)(aP:Int)(aQ:Int)(aZ:Int)(aD:State)(u11:Int×Int×(List Int))(x:Int×(List Int)):jw ay al aP aQ aZ aD u11 x=iV ay al aP aQ aZ aD u11 (jw ay al aP aQ aZ aD u11) x:=bH (zj ay al aP aQ aZ aD u11) x
def iW (ay:((List Int)×Int×Int×Int×State)→Option (List Int))(al:List Int)(aP:Int)(aQ:Int)(aZ:Int)(aD:State)(self:(Int×Int)→Option ((List Int)⊕(Int×Int×(List Int))))(x25:Int×Int):Option ((List Int)⊕(Int×Int×(List Int))):=
 bif (decide (x25.1<x25.2)) then ((aF al aQ).bind fun e26=>(aF al (IntKind.i64.wrap (dY .u64 (IntKind.u64.wrap (ai (x25.1+x25.2))) 1))).bind fun e27=>(zJ e26 e27 aD).bind fun r28=>cf (bif (!(decide (r28<0))) then ((ai ((IntKind.i64.wrap (dY .u64 (IntKind.u64.wrap (ai (x25.1+x25.2))) 1))+1)),x25.2) else (x25.1,(IntKind.i64.wrap (dY .u64 (IntKind.u64.wrap (ai (x25.1+x25.2))) 1)))) fun u29:Int×Int=>self (u29.1,u29.2)) else (some (.inr (aQ,x25.1,al)))
def oQ (ay:((List Int)×Int×Int×Int×State)→Option (List Int))(al:List Int)(aP:Int)(aQ:Int)(aZ:Int)(aD:State): (Int×Int)→Option ((List Int)⊕(Int×Int×(List Int))):=aK (iW ay al aP aQ aZ aD)
theorem zk (ay:((List Int)×Int×Int×Int×State)→Option (List Int))(al:List Int)(aP:Int)(aQ:Int)(aZ:Int)(aD:State): ∀a,Fin1 fun f=>iW ay al aP aQ aZ aD f a:=by
 unfold iW
 repeat first|intro _|exact aY|exact bx|apply bD|apply bh|apply bi|apply bo|apply bE
theorem Ex (ay:((List Int)×Int×Int×Int×State)→Option (List Int))(al:List Int)(aP:Int)(aQ:Int)(aZ:Int)(aD:State)(x:Int×Int):oQ ay al aP aQ aZ aD x=iW ay al aP aQ aZ aD (oQ ay al aP aQ aZ aD) x:=bH (zk ay al aP aQ aZ aD) x
def iX (ay:((List Int)×Int×Int×Int×State)→Option (List Int))(al:List Int)(aP:Int)(aQ:Int)(aZ:Int)(aD:State)(u30:Int×Int×(List Int))(self:(Int×(List Int))→Option ((List Int)⊕(List Int)))(x31:Int×(List Int)):Option ((List Int)⊕(List Int)):=
 bif (decide (x31.1>u30.2.1)) then ((aF x31.2 (ai (x31.1 - 1))).bind fun e32=>(aF x31.2 x31.1).bind fun e33=>(aF x31.2 x31.1).bind fun e34=>(aF (cX x31.2 x31.1 e32) (ai (x31.1 - 1))).bind fun e37=>cf (cX (cX x31.2 x31.1 e32) (ai (x31.1 - 1)) e33) fun rw38:List Int=>self ((ai (x31.1 - 1)),rw38)) else (some (.inr x31.2))
def jx (ay:((List Int)×Int×Int×Int×State)→Option (List Int))(al:List Int)(aP:Int)(aQ:Int)(aZ:Int)(aD:State)(u30:Int×Int×(List Int)):(Int×(List Int))→Option ((List Int)⊕(List Int)):=aK (iX ay al aP aQ aZ aD u30)
theorem zl (ay:((List Int)×Int×Int×Int×State)→Option (List Int))(al:List Int)(aP:Int)(aQ:Int)(aZ:Int)(aD:State)(u30:Int×Int×(List Int)):∀a,Fin1 fun f=>iX ay al aP aQ aZ aD u30 f a:=by
 unfold iX
 repeat first|intro _|exact aY|exact bx|apply bD|apply bh|apply bi|apply bo|apply bE
theorem Ey (ay:((List Int)×Int×Int×Int×State)→Option (List Int))(al:List Int)(aP:Int)(aQ:Int)(aZ:Int)(aD:State)(u30:Int×Int×(List Int))(x:Int×(List Int)):jx ay al aP aQ aZ aD u30 x=iX ay al aP aQ aZ aD u30 (jx ay al aP aQ aZ aD u30) x:=bH (zl ay al aP aQ aZ aD u30) x
def jT (ay:((List Int)×Int×Int×Int×State)→Option (List Int))(al:List Int)(aP:Int)(aQ:Int)(aZ:Int)(aD:State)(self:(Int×Int)→Option ((List Int)⊕(Int×Int×Int×Int)))(x45:Int×Int):Option ((List Int)⊕(Int×Int×Int×Int)):=
 bif (decide (x45.1<x45.2)) then ((aF al (ai ((ai ((ai ((IntKind.i64.wrap (dY .u64 (IntKind.u64.wrap (ai (aP+aZ))) 1))+aQ)) - 1)) - (IntKind.i64.wrap (dY .u64 (IntKind.u64.wrap (ai (x45.1+x45.2))) 1))))).bind fun e46=>(aF al (IntKind.i64.wrap (dY .u64 (IntKind.u64.wrap (ai (x45.1+x45.2))) 1))).bind fun e47=>(zJ e46 e47 aD).bind fun r48=>cf (bif (!(decide (r48<0))) then ((ai ((IntKind.i64.wrap (dY .u64 (IntKind.u64.wrap (ai (x45.1+x45.2))) 1))+1)),x45.2) else (x45.1,(IntKind.i64.wrap (dY .u64 (IntKind.u64.wrap (ai (x45.1+x45.2))) 1)))) fun u49:Int×Int=>self (u49.1,u49.2)) else (some (.inr (aZ,(IntKind.i64.wrap (dY .u64 (IntKind.u64.wrap (ai (aP+aZ))) 1)),(ai ((IntKind.i64.wrap (dY .u64 (IntKind.u64.wrap (ai (aP+aZ))) 1))+aQ)),x45.1)))
def qL (ay:((List Int)×Int×Int×Int×State)→Option (List Int))(al:List Int)(aP:Int)(aQ:Int)(aZ:Int)(aD:State): (Int×Int)→Option ((List Int)⊕(Int×Int×Int×Int)):=aK (jT ay al aP aQ aZ aD)
theorem zm (ay:((List Int)×Int×Int×Int×State)→Option (List Int))(al:List Int)(aP:Int)(aQ:Int)(aZ:Int)(aD:State): ∀a,Fin1 fun f=>jT ay al aP aQ aZ aD f a:=by
 unfold jT
 repeat first|intro _|exact aY|exact bx|apply bD|apply bh|apply bi|apply bo|apply bE
theorem Ez (ay:((List Int)×Int×Int×Int×State)→Option (List Int))(al:List Int)(aP:Int)(aQ:Int)(aZ:Int)(aD:State)(x:Int×Int):qL ay al aP aQ aZ aD x=jT ay al aP aQ aZ aD (qL ay al aP aQ aZ aD) x:=bH (zm ay al aP aQ aZ aD) x
def tx (ay:((List Int)×Int×Int×Int×State)→Option (List Int))(al:List Int)(aP:Int)(aQ:Int)(aZ:Int)(aD:State):Option (List Int):=
 bif ((ai (aQ - aP))==1) then (bf (ρ:=(List Int)) (oP ay al aP aQ aZ aD (aQ,aZ)) fun u11:Int×Int×(List Int)=>bf (ρ:=(List Int)) (jw ay al aP aQ aZ aD u11 (u11.1,u11.2.2)) fun u23:(List Int)=>bif Nat.beq u23.length al.length then (some u23) else none) else (bif ((ai (aZ - aQ))==1) then (bf (ρ:=(List Int)) (oQ ay al aP aQ aZ aD (aP,aQ)) fun u30:Int×Int×(List Int)=>bf (ρ:=(List Int)) (jx ay al aP aQ aZ aD u30 (u30.1,u30.2.2)) fun u42:(List Int)=>bif Nat.beq u42.length al.length then (some u42) else none) else (cf (bif (decide (aQ>(IntKind.i64.wrap (dY .u64 (IntKind.u64.wrap (ai (aP+aZ))) 1)))) then ((ai ((ai ((IntKind.i64.wrap (dY .u64 (IntKind.u64.wrap (ai (aP+aZ))) 1))+aQ)) - aZ)),(IntKind.i64.wrap (dY .u64 (IntKind.u64.wrap (ai (aP+aZ))) 1))) else (aP,aQ)) fun u44:Int×Int=>bf (ρ:=(List Int)) (qL ay al aP aQ aZ aD (u44.1,u44.2)) fun u50:Int×Int×Int×Int=>cf (bif (decide (u50.2.2.2<aQ)) then (decide (aQ<(ai (u50.2.2.1 - u50.2.2.2)))) else false) fun u51:Bool=>bf (ρ:=(List Int)) (bif u51 then ((wx al u50.2.2.2 aQ (ai (u50.2.2.1 - u50.2.2.2)) aD).bind fun r62=>bif Nat.beq r62.length al.length then (some (.inr r62)) else none) else (some (.inr al))) fun u52:(List Int)=>cf (bif (decide (aP<u50.2.2.2)) then (decide (u50.2.2.2<u50.2.1)) else false) fun u53:Bool=>bf (ρ:=(List Int)) (bif u53 then ((ay (u52,aP,u50.2.2.2,u50.2.1,aD)).bind fun r60=>bif Nat.beq r60.length u52.length then (some (.inr r60)) else none) else (some (.inr u52))) fun u54:(List Int)=>cf (bif (decide (u50.2.1<(ai (u50.2.2.1 - u50.2.2.2)))) then (decide ((ai (u50.2.2.1 - u50.2.2.2))<u50.1)) else false) fun u55:Bool=>bf (ρ:=(List Int)) (bif u55 then ((ay (u54,u50.2.1,(ai (u50.2.2.1 - u50.2.2.2)),u50.1,aD)).bind fun r58=>bif Nat.beq r58.length u54.length then (some (.inr r58)) else none) else (some (.inr u54))) fun u56:(List Int)=>bif Nat.beq u56.length al.length then (some u56) else none))
def ft (ay:((List Int)×Int×Int×Int×State)→Option (List Int))(x:(List Int)×Int×Int×Int×State):Option (List Int):=tx ay x.1 x.2.1 x.2.2.1 x.2.2.2.1 x.2.2.2.2
def Hg (al:List Int)(aP:Int)(aQ:Int)(aZ:Int)(aD:State):Option (List Int):=aK ft (al,aP,aQ,aZ,aD)
theorem VL:∀x,Fin1 fun ay=>ft ay x:=by
 unfold ft tx
 repeat first|intro _|exact aY|exact bx|exact jF|exact l4|exact iC|exact kg|exact i6|exact i7|apply bD|apply bh|apply bi|apply bo|apply bE|apply qs|unfold oP|unfold iU|unfold jw|unfold iV|unfold oP|unfold iU|unfold jw|unfold iV|unfold oQ|unfold iW|unfold jx|unfold iX|unfold oQ|unfold iW|unfold jx|unfold iX|unfold qL|unfold jT
theorem Yo (al:List Int)(aP:Int)(aQ:Int)(aZ:Int)(aD:State):Hg al aP aQ aZ aD=tx (aK ft) al aP aQ aZ aD:=bH VL (al,aP,aQ,aZ,aD)
def jS (bR:List Int)(n_7:Int)(bU:State)(self:(Int×Int×(List Int))→Option ((List Int)⊕(Int×Int×(List Int))))(x4:Int×Int×(List Int)):Option ((List Int)⊕(Int×Int×(List Int))):=
 bif (decide (x4.2.1≤n_7)) then ((qT x4.2.2 x4.1 x4.2.1 bU).bind fun r5=>bif Nat.beq r5.length x4.2.2.length then (self (x4.2.1,(ai (x4.2.1+20)),r5)) else none) else (some (.inr (n_7,x4.1,x4.2.2)))
def tu (bR:List Int)(n_7:Int)(bU:State): (Int×Int×(List Int))→Option ((List Int)⊕(Int×Int×(List Int))):=aK (jS bR n_7 bU)
theorem ze (bR:List Int)(n_7:Int)(bU:State): ∀a,Fin1 fun f=>jS bR n_7 bU f a:=by
 unfold jS
 repeat first|intro _|exact aY|exact bx|apply bD|apply bh|apply bi|apply bo|apply bE
theorem uM (bR:List Int)(n_7:Int)(bU:State)(x:Int×Int×(List Int)):tu bR n_7 bU x=jS bR n_7 bU (tu bR n_7 bU) x:=bH (ze bR n_7 bU) x
def ng (bR:List Int)(n_7:Int)(bU:State)(u7:Int×Int×(List Int))(x10:Int×(List Int))(self:(Int×Int×(List Int))→Option ((List Int)⊕(Int×(List Int))))(x11:Int×Int×(List Int)):Option ((List Int)⊕(Int×(List Int))):=
 bif (decide (x11.2.1≤u7.1)) then ((Hg x11.2.2 x11.1 (ai (x11.1+x10.1)) x11.2.1 bU).bind fun r12=>bif Nat.beq r12.length x11.2.2.length then (self (x11.2.1,(ai (x11.2.1+(ai (2*x10.1)))),r12)) else none) else (some (.inr (x11.1,x11.2.2)))
def tw (bR:List Int)(n_7:Int)(bU:State)(u7:Int×Int×(List Int))(x10:Int×(List Int)):(Int×Int×(List Int))→Option ((List Int)⊕(Int×(List Int))):=aK (ng bR n_7 bU u7 x10)
theorem zg (bR:List Int)(n_7:Int)(bU:State)(u7:Int×Int×(List Int))(x10:Int×(List Int)):∀a,Fin1 fun f=>ng bR n_7 bU u7 x10 f a:=by
 unfold ng
 repeat first|intro _|exact aY|exact bx|apply bD|apply bh|apply bi|apply bo|apply bE
theorem O5 (bR:List Int)(n_7:Int)(bU:State)(u7:Int×Int×(List Int))(x10:Int×(List Int))(x:Int×Int×(List Int)):tw bR n_7 bU u7 x10 x=ng bR n_7 bU u7 x10 (tw bR n_7 bU u7 x10) x:=bH (zg bR n_7 bU u7 x10) x
def iT (bR:List Int)(n_7:Int)(bU:State)(u7:Int×Int×(List Int))(self:(Int×(List Int))→Option ((List Int)⊕(List Int)))(x10:Int×(List Int)):Option ((List Int)⊕(List Int)):=
 bif (decide (x10.1<u7.1)) then (bZ (ρ:=(List Int)) (tw bR n_7 bU u7 x10 (0,(ai (2*x10.1)),x10.2)) fun u14:Int×(List Int)=>bZ (ρ:=(List Int)) (bif (decide ((ai (u14.1+x10.1))<u7.1)) then ((Hg u14.2 u14.1 (ai (u14.1+x10.1)) u7.1 bU).bind fun r16=>bif Nat.beq r16.length u14.2.length then (some (.inr r16)) else none) else (some (.inr u14.2))) fun u15:(List Int)=>self ((ai (x10.1*2)),u15)) else (some (.inr x10.2))
def tv (bR:List Int)(n_7:Int)(bU:State)(u7:Int×Int×(List Int)):(Int×(List Int))→Option ((List Int)⊕(List Int)):=aK (iT bR n_7 bU u7)
theorem zf (bR:List Int)(n_7:Int)(bU:State)(u7:Int×Int×(List Int)):∀a,Fin1 fun f=>iT bR n_7 bU u7 f a:=by
 unfold iT
 repeat first|intro _|exact aY|exact bx|apply bD|apply bh|apply bi|apply bo|apply bE
theorem qk (bR:List Int)(n_7:Int)(bU:State)(u7:Int×Int×(List Int))(x:Int×(List Int)):tv bR n_7 bU u7 x=iT bR n_7 bU u7 (tv bR n_7 bU u7) x:=bH (zf bR n_7 bU u7) x
def Bz (bR:List Int)(n_7:Int)(bU:State):Option (List Int):=
 bf (ρ:=(List Int)) (tu bR n_7 bU (0,20,bR)) fun u7:Int×Int×(List Int)=>(qT u7.2.2 u7.2.1 u7.1 bU).bind fun r8=>bif Nat.beq r8.length u7.2.2.length then (bf (ρ:=(List Int)) (tv bR n_7 bU u7 (20,r8)) fun u18:(List Int)=>bif Nat.beq u18.length bR.length then (some u18) else none) else none
def uJ (x_3:List Int)(pt:State):Option (List Int):=
 (Bz x_3 (len x_3) pt).bind fun r3=>bif Nat.beq r3.length x_3.length then (bif Nat.beq r3.length x_3.length then (some r3) else none) else none
def mD (c_1:Contract)(s_2:State)(eA:Unit)(self:(Int×(List Int))→Option ((List Int)⊕(List Int)))(x4:Int×(List Int)):Option ((List Int)⊕(List Int)):=
 bif (decide (x4.1<(len s_2.Duties))) then ((aF s_2.Duties x4.1).bind fun e5=>bZ (ρ:=(List Int)) (bif (e5.Status==1) then ((aF c_1.Clauses e5.Clause).bind fun e9=>(N5 e5 e9).bind fun r10=>some (.inr r10)) else (some (.inr false))) fun u6:Bool=>bZ (ρ:=(List Int)) (bif u6 then ((iz 8 x4.2 [x4.1]).bind fun a8=>some (.inr a8)) else (some (.inr x4.2))) fun u7:(List Int)=>self ((ai (x4.1+1)),u7)) else (some (.inr x4.2))
def pJ (c_1:Contract)(s_2:State)(eA:Unit): (Int×(List Int))→Option ((List Int)⊕(List Int)):=aK (mD c_1 s_2 eA)
theorem FY (c_1:Contract)(s_2:State)(eA:Unit): ∀a,Fin1 fun f=>mD c_1 s_2 eA f a:=by
 unfold mD
 repeat first|intro _|exact aY|exact bx|apply bD|apply bh|apply bi|apply bo|apply bE
theorem Ij (c_1:Contract)(s_2:State)(eA:Unit)(x:Int×(List Int)):pJ c_1 s_2 eA x=mD c_1 s_2 eA (pJ c_1 s_2 eA) x:=bH (FY c_1 s_2 eA) x
def Lg (c_1:Contract)(s_2:State)(eA:Unit):Option (List Int):=
 bf (ρ:=(List Int)) (pJ c_1 s_2 eA (0,[])) fun u11:(List Int)=>(uJ u11 s_2).bind fun r12=>bif Nat.beq r12.length u11.length then (some r12) else none
def Lc (c_1:Contract)(s_2:State):Option (Int×Bool):=
 (Ie c_1 s_2).bind fun r3=>bif (!r3) then (some (0,false)) else ((Lg c_1 s_2 ()).bind fun r4=>bif ((len r4)==0) then (some ((-1),true)) else ((aF r4 0).bind fun e5=>(aF s_2.Duties e5).bind fun e6=>some (e6.Due,true)))
def mQ (a_1:List ac)(b_2:List ac)(self:Int→Option (Bool⊕Unit))(x3:Int):Option (Bool⊕Unit):=
 bif (decide (x3<(len a_1))) then ((aF a_1 x3).bind fun e4=>(aF b_2 x3).bind fun e5=>bif (!(e4==e5)) then (some (.inl false)) else (self (ai (x3+1)))) else (some (.inr ()))
def sW (a_1:List ac)(b_2:List ac): Int→Option (Bool⊕Unit):=aK (mQ a_1 b_2)
theorem yK (a_1:List ac)(b_2:List ac): ∀a,Fin1 fun f=>mQ a_1 b_2 f a:=by
 unfold mQ
 repeat first|intro _|exact aY|exact bx|apply bD|apply bh|apply bi|apply bo|apply bE
theorem OO (a_1:List ac)(b_2:List ac)(x:Int):sW a_1 b_2 x=mQ a_1 b_2 (sW a_1 b_2) x:=bH (yK a_1 b_2) x
def wc (a_1:List ac)(b_2:List ac):Option Bool:=
 bif ((len a_1) != (len b_2)) then (some false) else (bf (ρ:=Bool) (sW a_1 b_2 0) fun u6:Unit=>some true)
def la (bp:(Condition×Condition)→Option Bool)(a_1:List Condition)(b_2:List Condition)(self:Int→Option (Bool⊕Unit))(x3:Int):Option (Bool⊕Unit):=
 bif (decide (x3<(len a_1))) then ((aF a_1 x3).bind fun e4=>(aF b_2 x3).bind fun e5=>(bp (e4,e5)).bind fun r6=>bif (!r6) then (some (.inl false)) else (self (ai (x3+1)))) else (some (.inr ()))
def qG (bp:(Condition×Condition)→Option Bool)(a_1:List Condition)(b_2:List Condition): Int→Option (Bool⊕Unit):=aK (la bp a_1 b_2)
theorem yH (bp:(Condition×Condition)→Option Bool)(a_1:List Condition)(b_2:List Condition): ∀a,Fin1 fun f=>la bp a_1 b_2 f a:=by
 unfold la
 repeat first|intro _|exact aY|exact bx|apply bD|apply bh|apply bi|apply bo|apply bE
theorem OK (bp:(Condition×Condition)→Option Bool)(a_1:List Condition)(b_2:List Condition)(x:Int):qG bp a_1 b_2 x=la bp a_1 b_2 (qG bp a_1 b_2) x:=bH (yH bp a_1 b_2) x
def wa (bp:(Condition×Condition)→Option Bool)(a_1:List Condition)(b_2:List Condition):Option Bool:=
 bif ((len a_1) != (len b_2)) then (some false) else (bf (ρ:=Bool) (qG bp a_1 b_2 0) fun u7:Unit=>some true)
def sS (bp:(Condition×Condition)→Option Bool)(a_1:Condition)(b_2:Condition):Option Bool:=
 bif (a_1.Op != b_2.Op) then (some false) else (bif (!(a_1.Name==b_2.Name)) then (some false) else (bif (a_1.Day != b_2.Day) then (some false) else ((wa bp a_1.Parts b_2.Parts).bind fun r3=>bif (!r3) then (some false) else (some true))))
def pE (bp:(Condition×Condition)→Option Bool)(x:Condition×Condition):Option Bool:=sS bp x.1 x.2
def Ay (a_1:Condition)(b_2:Condition):Option Bool:=aK pE (a_1,b_2)
theorem UX:∀x,Fin1 fun bp=>pE bp x:=by
 unfold pE sS
 repeat first|intro _|exact aY|exact bx|exact jF|exact l4|exact iC|exact kg|exact i6|exact i7|apply bD|apply bh|apply bi|apply bo|apply bE|apply qs|unfold wa|unfold qG|unfold la
theorem Yi (a_1:Condition)(b_2:Condition):Ay a_1 b_2=sS (aK pE) a_1 b_2:=bH UX (a_1,b_2)
def v6 (a_1:Clause)(b_2:Clause):Option Bool:=
 bif (!(a_1.Id==b_2.Id)) then (some false) else (bif (a_1.Kind != b_2.Kind) then (some false) else (bif (a_1.Party != b_2.Party) then (some false) else (bif (!(a_1.Action==b_2.Action)) then (some false) else (bif (a_1.Other != b_2.Other) then (some false) else (bif (a_1.Amount != b_2.Amount) then (some false) else ((Ay a_1.When b_2.When).bind fun r3=>bif (!r3) then (some false) else (bif (a_1.Within != b_2.Within) then (some false) else (bif (!(a_1.Repair==b_2.Repair)) then (some false) else (some true)))))))))
def mN (a_1:List Clause)(b_2:List Clause)(self:Int→Option (Bool⊕Unit))(x3:Int):Option (Bool⊕Unit):=
 bif (decide (x3<(len a_1))) then ((aF a_1 x3).bind fun e4=>(aF b_2 x3).bind fun e5=>(v6 e4 e5).bind fun r6=>bif (!r6) then (some (.inl false)) else (self (ai (x3+1)))) else (some (.inr ()))
def sR (a_1:List Clause)(b_2:List Clause): Int→Option (Bool⊕Unit):=aK (mN a_1 b_2)
theorem yG (a_1:List Clause)(b_2:List Clause): ∀a,Fin1 fun f=>mN a_1 b_2 f a:=by
 unfold mN
 repeat first|intro _|exact aY|exact bx|apply bD|apply bh|apply bi|apply bo|apply bE
theorem OJ (a_1:List Clause)(b_2:List Clause)(x:Int):sR a_1 b_2 x=mN a_1 b_2 (sR a_1 b_2) x:=bH (yG a_1 b_2) x
def Av (a_1:List Clause)(b_2:List Clause):Option Bool:=
 bif ((len a_1) != (len b_2)) then (some false) else (bf (ρ:=Bool) (sR a_1 b_2 0) fun u7:Unit=>some true)
def AC (a_1:Contract)(b_2:Contract):Option Bool:=
 (wc a_1.Parties b_2.Parties).bind fun r3=>bif (!r3) then (some false) else ((Av a_1.Clauses b_2.Clauses).bind fun r4=>bif (!r4) then (some false) else (some true))
def wb (a_1:Duty)(b_2:Duty):Option Bool:=
 bif (a_1.Clause != b_2.Clause) then (some false) else (bif (a_1.Since != b_2.Since) then (some false) else (bif (a_1.Due != b_2.Due) then (some false) else (bif (a_1.Status != b_2.Status) then (some false) else (some true))))
def mO (a_1:List Duty)(b_2:List Duty)(self:Int→Option (Bool⊕Unit))(x3:Int):Option (Bool⊕Unit):=
 bif (decide (x3<(len a_1))) then ((aF a_1 x3).bind fun e4=>(aF b_2 x3).bind fun e5=>(wb e4 e5).bind fun r6=>bif (!r6) then (some (.inl false)) else (self (ai (x3+1)))) else (some (.inr ()))
def sU (a_1:List Duty)(b_2:List Duty): Int→Option (Bool⊕Unit):=aK (mO a_1 b_2)
theorem yI (a_1:List Duty)(b_2:List Duty): ∀a,Fin1 fun f=>mO a_1 b_2 f a:=by
 unfold mO
 repeat first|intro _|exact aY|exact bx|apply bD|apply bh|apply bi|apply bo|apply bE
theorem OL (a_1:List Duty)(b_2:List Duty)(x:Int):sU a_1 b_2 x=mO a_1 b_2 (sU a_1 b_2) x:=bH (yI a_1 b_2) x
def AF (a_1:List Duty)(b_2:List Duty):Option Bool:=
 bif ((len a_1) != (len b_2)) then (some false) else (bf (ρ:=Bool) (sU a_1 b_2 0) fun u7:Unit=>some true)
def mP (a_1:List Int)(b_2:List Int)(self:Int→Option (Bool⊕Unit))(x3:Int):Option (Bool⊕Unit):=
 bif (decide (x3<(len a_1))) then ((aF a_1 x3).bind fun e4=>(aF b_2 x3).bind fun e5=>bif (e4 != e5) then (some (.inl false)) else (self (ai (x3+1)))) else (some (.inr ()))
def sV (a_1:List Int)(b_2:List Int): Int→Option (Bool⊕Unit):=aK (mP a_1 b_2)
theorem yJ (a_1:List Int)(b_2:List Int): ∀a,Fin1 fun f=>mP a_1 b_2 f a:=by
 unfold mP
 repeat first|intro _|exact aY|exact bx|apply bD|apply bh|apply bi|apply bo|apply bE
theorem OM (a_1:List Int)(b_2:List Int)(x:Int):sV a_1 b_2 x=mP a_1 b_2 (sV a_1 b_2) x:=bH (yJ a_1 b_2) x
def AH (a_1:List Int)(b_2:List Int):Option Bool:=
 bif ((len a_1) != (len b_2)) then (some false) else (bf (ρ:=Bool) (sV a_1 b_2 0) fun u6:Unit=>some true)
def AJ (a_1:State)(b_2:State):Option Bool:=
 bif (a_1.Day != b_2.Day) then (some false) else ((wc a_1.Facts b_2.Facts).bind fun r3=>bif (!r3) then (some false) else ((AF a_1.Duties b_2.Duties).bind fun r4=>bif (!r4) then (some false) else ((AH a_1.Balances b_2.Balances).bind fun r5=>bif (!r5) then (some false) else (bif (!(a_1.Over==b_2.Over)) then (some false) else (some true)))))
def eQ (kd:Contract)(ke:State):Option Bool:=
 (AQ kd 1048576).bind fun r3=>bif (decide (r3<0)) then (some true) else ((AY ke r3).bind fun r4=>bif (decide (r4<0)) then (some true) else ((uG kd).bind fun r5=>(uH ke).bind fun r6=>(BD r5 r6).bind fun r7=>(uG kd).bind fun r8=>(uH ke).bind fun r9=>(Lc r8 r9).bind fun r10=>cf (bif (r10.1 != r7.1) then true else (!(r10.2==r7.2))) fun u11:Bool=>bif u11 then (some false) else ((uG kd).bind fun r12=>(AC r8 r12).bind fun r13=>bif (!r13) then (some false) else ((uH ke).bind fun r14=>(AJ r9 r14).bind fun r15=>bif (!r15) then (some false) else (some true)))))
end
end Go.Ln
