/-
  What each function of the law computes, as a plain function.
-/
import Derived.Test.YtobhcnmeflacnaaGreatDoorFnExactFormatClauseLnC
set_option maxHeartbeats 4000000
set_option linter.unusedVariables false
set_option linter.unusedSimpArgs false
set_option maxRecDepth 100000
namespace Go.Ln
open Go
structure Condition where
 Op:Int
 Name:ac
 Day:Int
 Parts:List Condition
mutual
def aa:Condition→V
 | ⟨a0,a1,a2,a3⟩=>.agg [I a0,str a1,I a2,.isl false (b7 a3)]
def b7:List Condition→List V
 | []=>[]
 | x::xs=>aa x::b7 xs
end
theorem lx:∀xs,b7 xs=xs.map aa
 | []=>by simp[b7]
 | x::xs=>by simp[b7,lx xs]
def aI (x:Condition):V:=.agg [I x.Op,str x.Name,I x.Day,.isl false (x.Parts.map aa)]
theorem aQ (x:Condition):aa x=aI x:=by cases x;simp only[aa,aI,lx]
mutual
theorem dM:∀(a b:Condition),aa a=aa b→a=b
 | ⟨a0,a1,a2,a3⟩,⟨b0,b1,b2,b3⟩,h=>by
  simp only[aa] at h
  have k0:=V.agg.inj h
  obtain⟨h0,k1⟩:=List.cons.inj k0
  obtain rfl:=bK a0 b0 h0
  obtain⟨h1,k2⟩:=List.cons.inj k1
  obtain rfl:=bp a1 b1 h1
  obtain⟨h2,k3⟩:=List.cons.inj k2
  obtain rfl:=bK a2 b2 h2
  obtain⟨h3,k4⟩:=List.cons.inj k3
  have e3:b7 a3=b7 b3:=by simpa using h3
  obtain rfl:=lq a3 b3 e3
  rfl
theorem lq:∀(a b:List Condition),b7 a=b7 b→a=b
 | [],[],_=>rfl
 | [],_::_,h=>by simp[b7] at h
 | _::_,[],h=>by simp[b7] at h
 | x::xs,y::ys,h=>by
  simp only[b7,List.cons.injEq] at h
  rw[dM x y h.1,lq xs ys h.2]
end
theorem bH (a b:Condition)(h:aI a=aI b):a=b:=dM a b (by rw[aQ,aQ,h])
mutual
def ak:Condition→V
 | ⟨a0,a1,a2,a3⟩=>.agg [I a0,str a1,I a2,.usl 4 (bG a3)]
def bG:List Condition→List V
 | []=>[]
 | x::xs=>ak x::bG xs
end
theorem lu:∀xs,bG xs=xs.map ak
 | []=>by simp[bG]
 | x::xs=>by simp[bG,lu xs]
def ob (x:Condition):V:=.agg [I x.Op,str x.Name,I x.Day,.usl 4 (x.Parts.map ak)]
theorem jA (x:Condition):ak x=ob x:=by cases x;simp only[ak,ob,lu]
mutual
theorem rJ:∀(a b:Condition),ak a=ak b→a=b
 | ⟨a0,a1,a2,a3⟩,⟨b0,b1,b2,b3⟩,h=>by
  simp only[ak] at h
  have k0:=V.agg.inj h
  obtain⟨h0,k1⟩:=List.cons.inj k0
  obtain rfl:=bK a0 b0 h0
  obtain⟨h1,k2⟩:=List.cons.inj k1
  obtain rfl:=bp a1 b1 h1
  obtain⟨h2,k3⟩:=List.cons.inj k2
  obtain rfl:=bK a2 b2 h2
  obtain⟨h3,k4⟩:=List.cons.inj k3
  have e3:bG a3=bG b3:=by simpa using h3
  obtain rfl:=lm a3 b3 e3
  rfl
theorem lm:∀(a b:List Condition),bG a=bG b→a=b
 | [],[],_=>rfl
 | [],_::_,h=>by simp[bG] at h
 | _::_,[],h=>by simp[bG] at h
 | x::xs,y::ys,h=>by
  simp only[bG,List.cons.injEq] at h
  rw[rJ x y h.1,lm xs ys h.2]
end
mutual
theorem mu:∀x:Condition,cS (ak x)=aa x
 | ⟨a0,a1,a2,a3⟩=>by simp[ak,aa,cS,dU,str,ln]
theorem ln:∀xs:List Condition,dU (bG xs)=b7 xs
 | []=>by simp[bG,b7,dU]
 | x::xs=>by simp[bG,b7,dU,mu x,ln xs]
end
mutual
theorem rA:∀x:Condition,b6 (ak x)=false
 | ⟨a0,a1,a2,a3⟩=>by simp[ak,b6,cG,str,lh]
theorem lh:∀xs:List Condition,cG (bG xs)=false
 | []=>by simp[bG,cG]
 | x::xs=>by simp[bG,cG,rA x,lh xs]
end
structure Clause where
 Id:ac
 Kind:Int
 Party:Int
 Action:ac
 Other:Int
 Amount:Int
 When:Condition
 Within:Int
 Repair:ac
def ae (x:Clause):V:=.agg [str x.Id,I x.Kind,I x.Party,str x.Action,I x.Other,I x.Amount,I x.When.Op,str x.When.Name,I x.When.Day,.isl false (x.When.Parts.map aa),I x.Within,str x.Repair]
theorem cH (a b:Clause)(h:ae a=ae b):a=b:=by
 obtain⟨p0,p1,p2,p3,p4,p5,⟨p6,p7,p8,p9⟩,p10,p11⟩:=a
 obtain⟨q0,q1,q2,q3,q4,q5,⟨q6,q7,q8,q9⟩,q10,q11⟩:=b
 replace h:=V.agg.inj h
 obtain⟨h0,h⟩:=List.cons.inj h
 obtain rfl:=bp p0 q0 h0
 obtain⟨h1,h⟩:=List.cons.inj h
 obtain rfl:=bK p1 q1 h1
 obtain⟨h2,h⟩:=List.cons.inj h
 obtain rfl:=bK p2 q2 h2
 obtain⟨h3,h⟩:=List.cons.inj h
 obtain rfl:=bp p3 q3 h3
 obtain⟨h4,h⟩:=List.cons.inj h
 obtain rfl:=bK p4 q4 h4
 obtain⟨h5,h⟩:=List.cons.inj h
 obtain rfl:=bK p5 q5 h5
 obtain⟨h6,h⟩:=List.cons.inj h
 obtain rfl:=bK p6 q6 h6
 obtain⟨h7,h⟩:=List.cons.inj h
 obtain rfl:=bp p7 q7 h7
 obtain⟨h8,h⟩:=List.cons.inj h
 obtain rfl:=bK p8 q8 h8
 obtain⟨h9,h⟩:=List.cons.inj h
 obtain rfl:=(dG dM) p9 q9 h9
 obtain⟨h10,h⟩:=List.cons.inj h
 obtain rfl:=bK p10 q10 h10
 obtain⟨h11,h⟩:=List.cons.inj h
 obtain rfl:=bp p11 q11 h11
 rfl
def aA (x:Clause):V:=.agg [str x.Id,I x.Kind,I x.Party,str x.Action,I x.Other,I x.Amount,I x.When.Op,str x.When.Name,I x.When.Day,.usl 4 (x.When.Parts.map ak),I x.Within,str x.Repair]
theorem eX (x:Clause):cS (aA x)=ae x:=SS (ic rfl (ic rfl (ic rfl (ic rfl (ic rfl (ic rfl (ic rfl (ic rfl (ic rfl (ic (Tz (eK mu)) (ic rfl (ic rfl rfl))))))))))))
structure Contract where
 Parties:List ac
 Clauses:List Clause
def aN (x:Contract):V:=.agg [.isl false (x.Parties.map str),.isl false (x.Clauses.map ae)]
theorem bm (a b:Contract)(h:aN a=aN b):a=b:=by
 obtain⟨p0,p1⟩:=a
 obtain⟨q0,q1⟩:=b
 replace h:=V.agg.inj h
 obtain⟨h0,h⟩:=List.cons.inj h
 obtain rfl:=(dG bp) p0 q0 h0
 obtain⟨h1,h⟩:=List.cons.inj h
 obtain rfl:=(dG cH) p1 q1 h1
 rfl
structure Date where
 Year:Int
 Month:Int
 Day:Int
def eL (x:Date):V:=.agg [I x.Year,I x.Month,I x.Day]
theorem Fs (a b:Date)(h:eL a=eL b):a=b:=by
 obtain⟨p0,p1,p2⟩:=a
 obtain⟨q0,q1,q2⟩:=b
 replace h:=V.agg.inj h
 obtain⟨h0,h⟩:=List.cons.inj h
 obtain rfl:=bK p0 q0 h0
 obtain⟨h1,h⟩:=List.cons.inj h
 obtain rfl:=bK p1 q1 h1
 obtain⟨h2,h⟩:=List.cons.inj h
 obtain rfl:=bK p2 q2 h2
 rfl
mutual
def lD:Condition→Prop
 | ⟨a0,a1,a2,a3⟩=>rm a0∧Co a1∧rm a2∧(a3.length≤maxLen∧EJ a3)
def EJ:List Condition→Prop
 | []=>True
 | x::xs=>lD x∧EJ xs
end
theorem EL:∀xs,EJ xs↔∀x∈xs,lD x
 | []=>by simp[EJ]
 | x::xs=>by simp[EJ,EL xs]
theorem FG (x:Condition):lD x↔rm x.Op∧Co x.Name∧rm x.Day∧zY lD x.Parts:=by cases x;simp only[lD,EL,zY]
def ow (x:Clause):Prop:=Co x.Id∧rm x.Kind∧rm x.Party∧Co x.Action∧rm x.Other∧rm x.Amount∧lD x.When∧rm x.Within∧Co x.Repair
def NG (x:Contract):Prop:=(zY Co) x.Parties∧(zY ow) x.Clauses
noncomputable def kf (a_1:List ac)(left_2:Int)(self:(Int×Int)→Option (Int⊕Int))(x3:Int×Int):Option (Int⊕Int):=
 bif (decide (x3.2<(len a_1))) then ((aP a_1 x3.2).bind fun e4=>bif (decide ((an (x3.1 - (len e4)))<0)) then (some (.inl (-1))) else (self ((an (x3.1 - (len e4))),(an (x3.2+1))))) else (some (.inr x3.1))
noncomputable def pC (a_1:List ac)(left_2:Int): (Int×Int)→Option (Int⊕Int):=ay (kf a_1 left_2)
theorem uT (a_1:List ac)(left_2:Int): ∀a,Fin1 fun f=>kf a_1 left_2 f a:=by
 intro a
 unfold kf
 repeat first|exact aU|exact br|refine bA ?_ ?_|refine bg ?_ (fun _=>?_)|refine bf ?_ (fun _=>?_)|refine bi ?_ (fun _=>?_)|refine bz (fun _=>?_)
theorem Jn (a_1:List ac)(left_2:Int)(x:Int×Int):pC a_1 left_2 x=kf a_1 left_2 (pC a_1 left_2) x:=bI (uT a_1 left_2) x
noncomputable def wZ (a_1:List ac)(left_2:Int):Option Int:=
 bif (decide ((an (left_2 - (len a_1)))<0)) then (some (-1)) else (bd (ρ:=Int) (pC a_1 left_2 ((an (left_2 - (len a_1))),0)) fun u5:Int=>some u5)
noncomputable def jd (slf_Ffbh:(Condition×Int)→Option Int)(a_1:List Condition)(left_2:Int)(self:(Int×Int)→Option (Int⊕Int))(x3:Int×Int):Option (Int⊕Int):=
 bif (decide (x3.2<(len a_1))) then ((aP a_1 x3.2).bind fun e4=>(slf_Ffbh (e4,x3.1)).bind fun r5=>bif (decide (r5<0)) then (some (.inl (-1))) else (self (r5,(an (x3.2+1))))) else (some (.inr x3.1))
noncomputable def ni (slf_Ffbh:(Condition×Int)→Option Int)(a_1:List Condition)(left_2:Int): (Int×Int)→Option (Int⊕Int):=ay (jd slf_Ffbh a_1 left_2)
theorem vw (slf_Ffbh:(Condition×Int)→Option Int)(a_1:List Condition)(left_2:Int): ∀a,Fin1 fun f=>jd slf_Ffbh a_1 left_2 f a:=by
 intro a
 unfold jd
 repeat first|exact aU|exact br|refine bA ?_ ?_|refine bg ?_ (fun _=>?_)|refine bf ?_ (fun _=>?_)|refine bi ?_ (fun _=>?_)|refine bz (fun _=>?_)
theorem Jt (slf_Ffbh:(Condition×Int)→Option Int)(a_1:List Condition)(left_2:Int)(x:Int×Int):ni slf_Ffbh a_1 left_2 x=jd slf_Ffbh a_1 left_2 (ni slf_Ffbh a_1 left_2) x:=bI (vw slf_Ffbh a_1 left_2) x
noncomputable def sn (slf_Ffbh:(Condition×Int)→Option Int)(a_1:List Condition)(left_2:Int):Option Int:=
 bif (decide ((an (left_2 - (len a_1)))<0)) then (some (-1)) else (bd (ρ:=Int) (ni slf_Ffbh a_1 left_2 ((an (left_2 - (len a_1))),0)) fun u6:Int=>some u6)
noncomputable def pG (slf_Ffbh:(Condition×Int)→Option Int)(a_1:Condition)(left_2:Int):Option Int:=
 bif (decide ((an (left_2 - (len a_1.Name)))<0)) then (some (-1)) else ((sn slf_Ffbh a_1.Parts (an (left_2 - (len a_1.Name)))).bind fun r3=>bif (decide (r3<0)) then (some (-1)) else (some r3))
noncomputable def md (slf_Ffbh:(Condition×Int)→Option Int)(x:Condition×Int):Option Int:=pG slf_Ffbh x.1 x.2
noncomputable def tg (a_1:Condition)(left_2:Int):Option Int:=ay md (a_1,left_2)
theorem NI:∀x,Fin1 fun slf_Ffbh=>md slf_Ffbh x:=by
 intro x
 unfold md pG
 repeat first|exact aU|exact br|exact il|exact kg|exact gj|exact iJ|exact gO|exact gP|refine bA ?_ ?_|refine bg ?_ (fun _=>?_)|refine bf ?_ (fun _=>?_)|refine bi ?_ (fun _=>?_)|refine bz (fun _=>?_)|refine oh (fun _=>?_) | unfold sn | unfold ni | unfold jd
theorem PF (a_1:Condition)(left_2:Int):tg a_1 left_2=pG (ay md) a_1 left_2:=bI NI (a_1,left_2)
noncomputable def qH (a_1:Clause)(left_2:Int):Option Int:=
 bif (decide ((an (left_2 - (len a_1.Id)))<0)) then (some (-1)) else (bif (decide ((an ((an (left_2 - (len a_1.Id))) - (len a_1.Action)))<0)) then (some (-1)) else ((tg a_1.When (an ((an (left_2 - (len a_1.Id))) - (len a_1.Action)))).bind fun r3=>bif (decide (r3<0)) then (some (-1)) else (bif (decide ((an (r3 - (len a_1.Repair)))<0)) then (some (-1)) else (some (an (r3 - (len a_1.Repair)))))))
noncomputable def ki (a_1:List Clause)(left_2:Int)(self:(Int×Int)→Option (Int⊕Int))(x3:Int×Int):Option (Int⊕Int):=
 bif (decide (x3.2<(len a_1))) then ((aP a_1 x3.2).bind fun e4=>(qH e4 x3.1).bind fun r5=>bif (decide (r5<0)) then (some (.inl (-1))) else (self (r5,(an (x3.2+1))))) else (some (.inr x3.1))
noncomputable def ph (a_1:List Clause)(left_2:Int): (Int×Int)→Option (Int⊕Int):=ay (ki a_1 left_2)
theorem uQ (a_1:List Clause)(left_2:Int): ∀a,Fin1 fun f=>ki a_1 left_2 f a:=by
 intro a
 unfold ki
 repeat first|exact aU|exact br|refine bA ?_ ?_|refine bg ?_ (fun _=>?_)|refine bf ?_ (fun _=>?_)|refine bi ?_ (fun _=>?_)|refine bz (fun _=>?_)
theorem Iy (a_1:List Clause)(left_2:Int)(x:Int×Int):ph a_1 left_2 x=ki a_1 left_2 (ph a_1 left_2) x:=bI (uQ a_1 left_2) x
noncomputable def vT (a_1:List Clause)(left_2:Int):Option Int:=
 bif (decide ((an (left_2 - (len a_1)))<0)) then (some (-1)) else (bd (ρ:=Int) (ph a_1 left_2 ((an (left_2 - (len a_1))),0)) fun u6:Int=>some u6)
noncomputable def xi (a_1:Contract)(left_2:Int):Option Int:=
 (wZ a_1.Parties left_2).bind fun r3=>bif (decide (r3<0)) then (some (-1)) else ((vT a_1.Clauses r3).bind fun r4=>bif (decide (r4<0)) then (some (-1)) else (some r4))
noncomputable def kw (a_1:List ac)(self:(Int×(List ac))→Option ((List ac)⊕(List ac)))(x3:Int×(List ac)):Option ((List ac)⊕(List ac)):=
 bif (decide (x3.1<(len a_1))) then ((aP a_1 x3.1).bind fun e4=>(aP x3.2 x3.1).bind fun e5=>self ((an (x3.1+1)),(eU x3.2 x3.1 e4))) else (some (.inr x3.2))
noncomputable def pY (a_1:List ac): (Int×(List ac))→Option ((List ac)⊕(List ac)):=ay (kw a_1)
theorem vn (a_1:List ac): ∀a,Fin1 fun f=>kw a_1 f a:=by
 intro a
 unfold kw
 repeat first|exact aU|exact br|refine bA ?_ ?_|refine bg ?_ (fun _=>?_)|refine bf ?_ (fun _=>?_)|refine bi ?_ (fun _=>?_)|refine bz (fun _=>?_)
theorem I9 (a_1:List ac)(x:Int×(List ac)):pY a_1 x=kw a_1 (pY a_1) x:=bI (vn a_1) x
noncomputable def vO (a_1:List ac):Option (List ac):=
 (rk 16 [] (len a_1)).bind fun m2=>bd (ρ:=(List ac)) (pY a_1 (0,m2)) fun u6:(List ac)=>some u6
noncomputable def iR (slf_Ffbn:Condition→Option Condition)(a_1:List Condition)(self:(Int×(List Condition))→Option ((List Condition)⊕(List Condition)))(x3:Int×(List Condition)):Option ((List Condition)⊕(List Condition)):=
 bif (decide (x3.1<(len a_1))) then ((aP a_1 x3.1).bind fun e4=>(slf_Ffbn e4).bind fun r5=>(aP x3.2 x3.1).bind fun e6=>self ((an (x3.1+1)),(eU x3.2 x3.1 r5))) else (some (.inr x3.2))
noncomputable def nc (slf_Ffbn:Condition→Option Condition)(a_1:List Condition): (Int×(List Condition))→Option ((List Condition)⊕(List Condition)):=ay (iR slf_Ffbn a_1)
theorem uK (slf_Ffbn:Condition→Option Condition)(a_1:List Condition): ∀a,Fin1 fun f=>iR slf_Ffbn a_1 f a:=by
 intro a
 unfold iR
 repeat first|exact aU|exact br|refine bA ?_ ?_|refine bg ?_ (fun _=>?_)|refine bf ?_ (fun _=>?_)|refine bi ?_ (fun _=>?_)|refine bz (fun _=>?_)
theorem Jx (slf_Ffbn:Condition→Option Condition)(a_1:List Condition)(x:Int×(List Condition)):nc slf_Ffbn a_1 x=iR slf_Ffbn a_1 (nc slf_Ffbn a_1) x:=bI (uK slf_Ffbn a_1) x
noncomputable def sF (slf_Ffbn:Condition→Option Condition)(a_1:List Condition):Option (List Condition):=
 (rk 56 (Condition.mk 0 [] 0 []) (len a_1)).bind fun m2=>bd (ρ:=(List Condition)) (nc slf_Ffbn a_1 (0,m2)) fun u7:(List Condition)=>some u7
noncomputable def pX (slf_Ffbn:Condition→Option Condition)(a_1:Condition):Option Condition:=
 (sF slf_Ffbn a_1.Parts).bind fun r2=>some (Condition.mk a_1.Op a_1.Name a_1.Day r2)
noncomputable def mp (slf_Ffbn:Condition→Option Condition)(x:Condition):Option Condition:=pX slf_Ffbn x
noncomputable def xt (a_1:Condition):Option Condition:=ay mp a_1
theorem OA:∀x,Fin1 fun slf_Ffbn=>mp slf_Ffbn x:=by
 intro x
 unfold mp pX
 repeat first|exact aU|exact br|exact il|exact kg|exact gj|exact iJ|exact gO|exact gP|refine bA ?_ ?_|refine bg ?_ (fun _=>?_)|refine bf ?_ (fun _=>?_)|refine bi ?_ (fun _=>?_)|refine bz (fun _=>?_)|refine oh (fun _=>?_) | unfold sF | unfold nc | unfold iR
theorem Qq (a_1:Condition):xt a_1=pX (ay mp) a_1:=bI OA a_1
noncomputable def ta (a_1:Clause):Option Clause:=
 (xt a_1.When).bind fun r2=>some (Clause.mk a_1.Id a_1.Kind a_1.Party a_1.Action a_1.Other a_1.Amount r2 a_1.Within a_1.Repair)
noncomputable def kz (a_1:List Clause)(self:(Int×(List Clause))→Option ((List Clause)⊕(List Clause)))(x3:Int×(List Clause)):Option ((List Clause)⊕(List Clause)):=
 bif (decide (x3.1<(len a_1))) then ((aP a_1 x3.1).bind fun e4=>(ta e4).bind fun r5=>(aP x3.2 x3.1).bind fun e6=>self ((an (x3.1+1)),(eU x3.2 x3.1 r5))) else (some (.inr x3.2))
noncomputable def pZ (a_1:List Clause): (Int×(List Clause))→Option ((List Clause)⊕(List Clause)):=ay (kz a_1)
theorem uC (a_1:List Clause): ∀a,Fin1 fun f=>kz a_1 f a:=by
 intro a
 unfold kz
 repeat first|exact aU|exact br|refine bA ?_ ?_|refine bg ?_ (fun _=>?_)|refine bf ?_ (fun _=>?_)|refine bi ?_ (fun _=>?_)|refine bz (fun _=>?_)
theorem Jj (a_1:List Clause)(x:Int×(List Clause)):pZ a_1 x=kz a_1 (pZ a_1) x:=bI (uC a_1) x
noncomputable def v6 (a_1:List Clause):Option (List Clause):=
 (rk 144 (Clause.mk [] 0 0 [] 0 0 (Condition.mk 0 [] 0 []) 0 []) (len a_1)).bind fun m2=>bd (ρ:=(List Clause)) (pZ a_1 (0,m2)) fun u7:(List Clause)=>some u7
noncomputable def rh (a_1:Contract):Option Contract:=
 (vO a_1.Parties).bind fun r2=>(v6 a_1.Clauses).bind fun r3=>some (Contract.mk r2 r3)
noncomputable def dj (x_1:Int)(a_2:Int)(b_3:Int):Option Bool:=
 cJ (bif (decide (x_1≥a_2)) then (decide (x_1≤b_3)) else false) fun u4:Bool=>some u4
noncomputable def sD (b_1:Int):Option Bool:=
 cJ (bif (decide (b_1≥97)) then (cJ (bif (decide (b_1≤122)) then true else (cJ (bif (decide (b_1≥48)) then (decide (b_1≤57)) else false) fun u4:Bool=>u4)) fun u3:Bool=>u3) else (cJ (bif (decide (b_1≥48)) then (decide (b_1≤57)) else false) fun u5:Bool=>u5)) fun u2:Bool=>some u2
noncomputable def kG (s_1:ac)(self:Int→Option (Bool⊕Unit))(x4:Int):Option (Bool⊕Unit):=
 bif (decide (x4<(len s_1))) then ((aP s_1 x4).bind fun c5=>(sD (c5.toNat:Int)).bind fun r6=>bif (!r6) then (some (.inl false)) else (self (an (x4+1)))) else (some (.inr ()))
noncomputable def pr (s_1:ac): Int→Option (Bool⊕Unit):=ay (kG s_1)
theorem uR (s_1:ac): ∀a,Fin1 fun f=>kG s_1 f a:=by
 intro a
 unfold kG
 repeat first|exact aU|exact br|refine bA ?_ ?_|refine bg ?_ (fun _=>?_)|refine bf ?_ (fun _=>?_)|refine bi ?_ (fun _=>?_)|refine bz (fun _=>?_)
theorem Je (s_1:ac)(x:Int):pr s_1 x=kG s_1 (pr s_1) x:=bI (uR s_1) x
noncomputable def oG (s_1:ac):Option Bool:=
 (dj (len s_1) 1 8).bind fun r2=>bd (ρ:=Bool) (bif (!r2) then (some (.inr true)) else ((aP s_1 0).bind fun c16=>bR (ρ:=Bool) (bif (decide ((c16.toNat:Int)<97)) then (some (.inr true)) else ((aP s_1 0).bind fun c18=>some (.inr (decide ((c18.toNat:Int)>122))))) fun u17:Bool=>some (.inr u17))) fun u3:Bool=>bif u3 then (some false) else (bd (ρ:=Bool) (pr s_1 0) fun u7:Unit=>cJ (bif (s_1==([116,114,117,101]:ac)) then (s_1==([116,114,117,101]:ac)) else (cJ (bif (s_1==([102,114,111,109]:ac)) then (s_1==([102,114,111,109]:ac)) else (cJ (bif (s_1==([110,111,116]:ac)) then (s_1==([110,111,116]:ac)) else (cJ (bif (s_1==([97,110,100]:ac)) then (s_1==([97,110,100]:ac)) else (cJ (bif (s_1==([111,114]:ac)) then (s_1==([111,114]:ac)) else (cJ (bif (s_1==([98,111,116,104]:ac)) then (s_1==([98,111,116,104]:ac)) else (cJ (bif (s_1==([101,105,116,104,101,114]:ac)) then (s_1==([101,105,116,104,101,114]:ac)) else (cJ (bif (s_1==([105,116]:ac)) then (s_1==([105,116]:ac)) else (s_1==([105,110]:ac))) fun u15:Bool=>u15)) fun u14:Bool=>u14)) fun u13:Bool=>u13)) fun u12:Bool=>u12)) fun u11:Bool=>u11)) fun u10:Bool=>u10)) fun u9:Bool=>u9)) fun u8:Bool=>bif u8 then (some false) else (some true))
noncomputable def kt (list_1:List ac)(name_2:ac)(self:Int→Option (Bool⊕Unit))(x3:Int):Option (Bool⊕Unit):=
 bif (decide (x3<(len list_1))) then ((aP list_1 x3).bind fun e4=>bif (e4==name_2) then (some (.inl true)) else (self (an (x3+1)))) else (some (.inr ()))
noncomputable def pO (list_1:List ac)(name_2:ac): Int→Option (Bool⊕Unit):=ay (kt list_1 name_2)
theorem uU (list_1:List ac)(name_2:ac): ∀a,Fin1 fun f=>kt list_1 name_2 f a:=by
 intro a
 unfold kt
 repeat first|exact aU|exact br|refine bA ?_ ?_|refine bg ?_ (fun _=>?_)|refine bf ?_ (fun _=>?_)|refine bi ?_ (fun _=>?_)|refine bz (fun _=>?_)
theorem JA (list_1:List ac)(name_2:ac)(x:Int):pO list_1 name_2 x=kt list_1 name_2 (pO list_1 name_2) x:=bI (uU list_1 name_2) x
noncomputable def xl (list_1:List ac)(name_2:ac):Option Bool:=
 bd (ρ:=Bool) (pO list_1 name_2 0) fun u5:Unit=>some false
noncomputable def i6 (c_1:Contract)(self:Int→Option (Bool⊕Unit))(x2:Int):Option (Bool⊕Unit):=
 bif (decide (x2<(len c_1.Parties))) then ((aP c_1.Parties x2).bind fun e3=>(oG e3).bind fun r4=>bR (ρ:=Bool) (bif (!r4) then (some (.inr true)) else ((kd c_1.Parties 0 x2).bind fun s6=>(aP c_1.Parties x2).bind fun e7=>(xl s6 e7).bind fun r8=>some (.inr r8))) fun u5:Bool=>bif u5 then (some (.inl false)) else (self (an (x2+1)))) else (some (.inr ()))
noncomputable def pQ (c_1:Contract): Int→Option (Bool⊕Unit):=ay (i6 c_1)
theorem vD (c_1:Contract): ∀a,Fin1 fun f=>i6 c_1 f a:=by
 intro a
 unfold i6
 repeat first|exact aU|exact br|refine bA ?_ ?_|refine bg ?_ (fun _=>?_)|refine bf ?_ (fun _=>?_)|refine bi ?_ (fun _=>?_)|refine bz (fun _=>?_)
theorem xT (c_1:Contract)(x:Int):pQ c_1 x=i6 c_1 (pQ c_1) x:=bI (vD c_1) x
noncomputable def tD (c_1:Contract):Option Bool:=
 bd (ρ:=Bool) (pQ c_1 0) fun u9:Unit=>(dj (len c_1.Parties) 2 4).bind fun r10=>some r10
noncomputable def kD (c_1:Contract)(id_2:ac)(self:Int→Option (Int⊕Unit))(x3:Int):Option (Int⊕Unit):=
 bif (decide (x3<(len c_1.Clauses))) then ((aP c_1.Clauses x3).bind fun e4=>bif (e4.Id==id_2) then (some (.inl x3)) else (self (an (x3+1)))) else (some (.inr ()))
noncomputable def pJ (c_1:Contract)(id_2:ac): Int→Option (Int⊕Unit):=ay (kD c_1 id_2)
theorem vl (c_1:Contract)(id_2:ac): ∀a,Fin1 fun f=>kD c_1 id_2 f a:=by
 intro a
 unfold kD
 repeat first|exact aU|exact br|refine bA ?_ ?_|refine bg ?_ (fun _=>?_)|refine bf ?_ (fun _=>?_)|refine bi ?_ (fun _=>?_)|refine bz (fun _=>?_)
theorem IO (c_1:Contract)(id_2:ac)(x:Int):pJ c_1 id_2 x=kD c_1 id_2 (pJ c_1 id_2) x:=bI (vl c_1 id_2) x
noncomputable def qv (c_1:Contract)(id_2:ac):Option Int:=
 bd (ρ:=Int) (pJ c_1 id_2 0) fun u5:Unit=>some (-1)
noncomputable def BC (day_1:Int):Option Bool:=
 (dj day_1 0 36524).bind fun r2=>some r2
noncomputable def vW (c_1:Condition):Option Bool:=
 bif (c_1.Op==1) then (cJ (bif ((len c_1.Parts)==0) then (cJ (bif (c_1.Name==([]:ac)) then (c_1.Day==0) else false) fun u3:Bool=>u3) else false) fun u2:Bool=>some u2) else (bif (c_1.Op==2) then (bd (ρ:=Bool) (bif ((len c_1.Parts)==0) then ((oG c_1.Name).bind fun r5=>cJ (bif r5 then (c_1.Day==0) else false) fun u6:Bool=>some (.inr u6)) else (some (.inr false))) fun u4:Bool=>some u4) else (bif (c_1.Op==3) then (bd (ρ:=Bool) (bif ((len c_1.Parts)==0) then (bR (ρ:=Bool) (bif (c_1.Name==([]:ac)) then ((BC c_1.Day).bind fun r9=>some (.inr r9)) else (some (.inr false))) fun u8:Bool=>some (.inr u8)) else (some (.inr false))) fun u7:Bool=>some u7) else (bif (c_1.Op==4) then (cJ (bif ((len c_1.Parts)==1) then (cJ (bif (c_1.Name==([]:ac)) then (c_1.Day==0) else false) fun u11:Bool=>u11) else false) fun u10:Bool=>some u10) else (cJ (bif (c_1.Op==5) then (c_1.Op==5) else (c_1.Op==6)) fun u12:Bool=>bif u12 then (cJ (bif ((len c_1.Parts)==2) then (cJ (bif (c_1.Name==([]:ac)) then (c_1.Day==0) else false) fun u14:Bool=>u14) else false) fun u13:Bool=>some u13) else (some false)))))
noncomputable def iD (slf_Ffci:Condition→Option Bool)(c_1:Condition)(self:Int→Option (Bool⊕Unit))(x3:Int):Option (Bool⊕Unit):=
 bif (decide (x3<(len c_1.Parts))) then ((aP c_1.Parts x3).bind fun e4=>(slf_Ffci e4).bind fun r5=>bif (!r5) then (some (.inl false)) else (self (an (x3+1)))) else (some (.inr ()))
noncomputable def nf (slf_Ffci:Condition→Option Bool)(c_1:Condition): Int→Option (Bool⊕Unit):=ay (iD slf_Ffci c_1)
theorem vt (slf_Ffci:Condition→Option Bool)(c_1:Condition): ∀a,Fin1 fun f=>iD slf_Ffci c_1 f a:=by
 intro a
 unfold iD
 repeat first|exact aU|exact br|refine bA ?_ ?_|refine bg ?_ (fun _=>?_)|refine bf ?_ (fun _=>?_)|refine bi ?_ (fun _=>?_)|refine bz (fun _=>?_)
theorem Jr (slf_Ffci:Condition→Option Bool)(c_1:Condition)(x:Int):nf slf_Ffci c_1 x=iD slf_Ffci c_1 (nf slf_Ffci c_1) x:=bI (vt slf_Ffci c_1) x
noncomputable def pe (slf_Ffci:Condition→Option Bool)(c_1:Condition):Option Bool:=
 (vW c_1).bind fun r2=>bif (!r2) then (some false) else (bd (ρ:=Bool) (nf slf_Ffci c_1 0) fun u6:Unit=>some true)
noncomputable def nM (slf_Ffci:Condition→Option Bool)(x:Condition):Option Bool:=pe slf_Ffci x
noncomputable def BS (c_1:Condition):Option Bool:=ay nM c_1
theorem Nu:∀x,Fin1 fun slf_Ffci=>nM slf_Ffci x:=by
 intro x
 unfold nM pe
 repeat first|exact aU|exact br|exact il|exact kg|exact gj|exact iJ|exact gO|exact gP|refine bA ?_ ?_|refine bg ?_ (fun _=>?_)|refine bf ?_ (fun _=>?_)|refine bi ?_ (fun _=>?_)|refine bz (fun _=>?_)|refine oh (fun _=>?_) | unfold nf | unfold iD
theorem P7 (c_1:Condition):BS c_1=pe (ay nM) c_1:=bI Nu c_1
noncomputable def gK (slf_Ffcp:Condition→Option Int)(c_1:Condition)(self:(Int×Int)→Option (Int⊕Int))(x2:Int×Int):Option (Int⊕Int):=
 bif (decide (x2.2<(len c_1.Parts))) then ((aP c_1.Parts x2.2).bind fun e3=>(slf_Ffcp e3).bind fun r4=>self ((an (x2.1+r4)),(an (x2.2+1)))) else (some (.inr x2.1))
noncomputable def jz (slf_Ffcp:Condition→Option Int)(c_1:Condition): (Int×Int)→Option (Int⊕Int):=ay (gK slf_Ffcp c_1)
theorem uV (slf_Ffcp:Condition→Option Int)(c_1:Condition): ∀a,Fin1 fun f=>gK slf_Ffcp c_1 f a:=by
 intro a
 unfold gK
 repeat first|exact aU|exact br|refine bA ?_ ?_|refine bg ?_ (fun _=>?_)|refine bf ?_ (fun _=>?_)|refine bi ?_ (fun _=>?_)|refine bz (fun _=>?_)
theorem yd (slf_Ffcp:Condition→Option Int)(c_1:Condition)(x:Int×Int):jz slf_Ffcp c_1 x=gK slf_Ffcp c_1 (jz slf_Ffcp c_1) x:=bI (uV slf_Ffcp c_1) x
noncomputable def qe (slf_Ffcp:Condition→Option Int)(c_1:Condition):Option Int:=
 bd (ρ:=Int) (jz slf_Ffcp c_1 (1,0)) fun u5:Int=>some u5
noncomputable def iX (slf_Ffcp:Condition→Option Int)(x:Condition):Option Int:=qe slf_Ffcp x
noncomputable def FJ (c_1:Condition):Option Int:=ay iX c_1
theorem OY:∀x,Fin1 fun slf_Ffcp=>iX slf_Ffcp x:=by
 intro x
 unfold iX qe
 repeat first|exact aU|exact br|exact il|exact kg|exact gj|exact iJ|exact gO|exact gP|refine bA ?_ ?_|refine bg ?_ (fun _=>?_)|refine bf ?_ (fun _=>?_)|refine bi ?_ (fun _=>?_)|refine bz (fun _=>?_)|refine oh (fun _=>?_) | unfold jz | unfold gK
theorem PH (c_1:Condition):FJ c_1=qe (ay iX) c_1:=bI OY c_1
noncomputable def vL (c_1:Condition):Option Bool:=
 (BS c_1).bind fun r2=>bd (ρ:=Bool) (bif r2 then ((FJ c_1).bind fun r4=>some (.inr (decide (r4≤15)))) else (some (.inr false))) fun u3:Bool=>some u3
noncomputable def v7 (c_1:Contract)(i_2:Int):Option Bool:=
 (aP c_1.Clauses i_2).bind fun e3=>(oG e3.Id).bind fun r4=>bd (ρ:=Bool) (bif (!r4) then (some (.inr true)) else ((oG e3.Action).bind fun r17=>bR (ρ:=Bool) (bif (!r17) then (some (.inr true)) else ((dj e3.Kind 1 4).bind fun r19=>bR (ρ:=Bool) (bif (!r19) then (some (.inr true)) else ((dj e3.Party 0 (an ((len c_1.Parties) - 1))).bind fun r21=>bR (ρ:=Bool) (bif (!r21) then (some (.inr true)) else ((dj e3.Other 0 (an ((len c_1.Parties) - 1))).bind fun r23=>bR (ρ:=Bool) (bif (!r23) then (some (.inr true)) else (bR (ρ:=Bool) (bif (e3.Party==e3.Other) then (some (.inr true)) else ((vL e3.When).bind fun r26=>some (.inr (!r26)))) fun u25:Bool=>some (.inr u25))) fun u24:Bool=>some (.inr u24))) fun u22:Bool=>some (.inr u22))) fun u20:Bool=>some (.inr u20))) fun u18:Bool=>some (.inr u18))) fun u5:Bool=>bif u5 then (some false) else ((dj e3.Amount 0 1000000).bind fun r6=>bd (ρ:=Bool) (bif (!r6) then (some (.inr true)) else ((dj e3.Within 0 400).bind fun r13=>cJ (bif (!r13) then true else (cJ (bif (e3.Kind != 1) then (cJ (bif (e3.Amount != 0) then true else (e3.Within != 0)) fun u16:Bool=>u16) else false) fun u15:Bool=>u15)) fun u14:Bool=>some (.inr u14))) fun u7:Bool=>bif u7 then (some false) else (bif (e3.Repair==([]:ac)) then (some true) else ((qv c_1 e3.Repair).bind fun r8=>bd (ρ:=Bool) (bif (decide (r8≥0)) then (bR (ρ:=Bool) (bif (r8 != i_2) then ((aP c_1.Clauses r8).bind fun e11=>cJ (bif (e11.Kind==1) then (e3.Kind != 3) else false) fun u12:Bool=>some (.inr u12)) else (some (.inr false))) fun u10:Bool=>some (.inr u10)) else (some (.inr false))) fun u9:Bool=>some u9)))
noncomputable def iH (l_8:List ac)(s_9:ac)(self:Int→Option ((List ac)⊕(ac×Int×(List ac))))(x3:Int):Option ((List ac)⊕(ac×Int×(List ac))):=
 bR (ρ:=(List ac)) (bif (decide (x3<(len l_8))) then ((aP l_8 x3).bind fun e5=>some (.inr (Op.bytesLess e5 s_9))) else (some (.inr false))) fun u4:Bool=>bif u4 then (self (an (x3+1))) else (some (.inr (s_9,x3,l_8)))
noncomputable def qf (l_8:List ac)(s_9:ac): Int→Option ((List ac)⊕(ac×Int×(List ac))):=ay (iH l_8 s_9)
theorem uF (l_8:List ac)(s_9:ac): ∀a,Fin1 fun f=>iH l_8 s_9 f a:=by
 intro a
 unfold iH
 repeat first|exact aU|exact br|refine bA ?_ ?_|refine bg ?_ (fun _=>?_)|refine bf ?_ (fun _=>?_)|refine bi ?_ (fun _=>?_)|refine bz (fun _=>?_)
theorem AQ (l_8:List ac)(s_9:ac)(x:Int):qf l_8 s_9 x=iH l_8 s_9 (qf l_8 s_9) x:=bI (uF l_8 s_9) x
noncomputable def sb (l_8:List ac)(s_9:ac):Option (List ac):=
 bd (ρ:=(List ac)) (qf l_8 s_9 0) fun u6:ac×Int×(List ac)=>bd (ρ:=(List ac)) (bif (decide (u6.2.1<(len u6.2.2))) then ((aP u6.2.2 u6.2.1).bind fun e15=>some (.inr (e15==u6.1))) else (some (.inr false))) fun u7:Bool=>bif u7 then (some u6.2.2) else ((ga u6.2.2.length 0 u6.2.1).bind fun s8=>(gn u6.2.2 (0+Int.toNat (0)) (Int.toNat u6.2.1 - Int.toNat (0))).bind fun p9=>(kc 16 ([]:List ac) p9).bind fun a10=>(kc 16 a10 [u6.1]).bind fun a11=>(ga u6.2.2.length u6.2.1 (len u6.2.2)).bind fun s12=>(gn u6.2.2 (0+Int.toNat u6.2.1) (Int.toNat (len u6.2.2) - Int.toNat u6.2.1)).bind fun p13=>(kc 16 a11 p13).bind fun a14=>some a14)
noncomputable def gQ (slf_Ffcm:((List ac)×Condition)→Option (List ac))(l_4:List ac)(c_5:Condition)(self:(Int×(List ac))→Option ((List ac)⊕(List ac)))(x4:Int×(List ac)):Option ((List ac)⊕(List ac)):=
 bif (decide (x4.1<(len c_5.Parts))) then ((aP c_5.Parts x4.1).bind fun e5=>(slf_Ffcm (x4.2,e5)).bind fun r6=>self ((an (x4.1+1)),r6)) else (some (.inr x4.2))
noncomputable def jm (slf_Ffcm:((List ac)×Condition)→Option (List ac))(l_4:List ac)(c_5:Condition): (Int×(List ac))→Option ((List ac)⊕(List ac)):=ay (gQ slf_Ffcm l_4 c_5)
theorem ve (slf_Ffcm:((List ac)×Condition)→Option (List ac))(l_4:List ac)(c_5:Condition): ∀a,Fin1 fun f=>gQ slf_Ffcm l_4 c_5 f a:=by
 intro a
 unfold gQ
 repeat first|exact aU|exact br|refine bA ?_ ?_|refine bg ?_ (fun _=>?_)|refine bf ?_ (fun _=>?_)|refine bi ?_ (fun _=>?_)|refine bz (fun _=>?_)
theorem AN (slf_Ffcm:((List ac)×Condition)→Option (List ac))(l_4:List ac)(c_5:Condition)(x:Int×(List ac)):jm slf_Ffcm l_4 c_5 x=gQ slf_Ffcm l_4 c_5 (jm slf_Ffcm l_4 c_5) x:=bI (ve slf_Ffcm l_4 c_5) x
noncomputable def pS (slf_Ffcm:((List ac)×Condition)→Option (List ac))(l_4:List ac)(c_5:Condition):Option (List ac):=
 bif (c_5.Op==2) then ((sb l_4 c_5.Name).bind fun r3=>some r3) else (bd (ρ:=(List ac)) (jm slf_Ffcm l_4 c_5 (0,l_4)) fun u7:(List ac)=>some u7)
noncomputable def ja (slf_Ffcm:((List ac)×Condition)→Option (List ac))(x:(List ac)×Condition):Option (List ac):=pS slf_Ffcm x.1 x.2
noncomputable def Gm (l_4:List ac)(c_5:Condition):Option (List ac):=ay ja (l_4,c_5)
theorem N8:∀x,Fin1 fun slf_Ffcm=>ja slf_Ffcm x:=by
 intro x
 unfold ja pS
 repeat first|exact aU|exact br|exact il|exact kg|exact gj|exact iJ|exact gO|exact gP|refine bA ?_ ?_|refine bg ?_ (fun _=>?_)|refine bf ?_ (fun _=>?_)|refine bi ?_ (fun _=>?_)|refine bz (fun _=>?_)|refine oh (fun _=>?_) | unfold jm | unfold gQ
theorem Q7 (l_4:List ac)(c_5:Condition):Gm l_4 c_5=pS (ay ja) l_4 c_5:=bI N8 (l_4,c_5)
noncomputable def je (c_1:Contract)(self:(Int×(List ac))→Option ((List ac)⊕(List ac)))(x2:Int×(List ac)):Option ((List ac)⊕(List ac)):=
 bif (decide (x2.1<(len c_1.Clauses))) then ((aP c_1.Clauses x2.1).bind fun e3=>(sb x2.2 e3.Action).bind fun r4=>(aP c_1.Clauses x2.1).bind fun e5=>(Gm r4 e5.When).bind fun r6=>self ((an (x2.1+1)),r6)) else (some (.inr x2.2))
noncomputable def kj (c_1:Contract): (Int×(List ac))→Option ((List ac)⊕(List ac)):=ay (je c_1)
theorem uN (c_1:Contract): ∀a,Fin1 fun f=>je c_1 f a:=by
 intro a
 unfold je
 repeat first|exact aU|exact br|refine bA ?_ ?_|refine bg ?_ (fun _=>?_)|refine bf ?_ (fun _=>?_)|refine bi ?_ (fun _=>?_)|refine bz (fun _=>?_)
theorem yg (c_1:Contract)(x:Int×(List ac)):kj c_1 x=je c_1 (kj c_1) x:=bI (uN c_1) x
noncomputable def re (c_1:Contract):Option (List ac):=
 bd (ρ:=(List ac)) (kj c_1 (0,[])) fun u7:(List ac)=>some u7
noncomputable def iL (c_1:Contract)(self:Int→Option (Bool⊕Unit))(x4:Int):Option (Bool⊕Unit):=
 bif (decide (x4<(len c_1.Clauses))) then ((aP c_1.Clauses x4).bind fun e5=>(qv c_1 e5.Id).bind fun r6=>bR (ρ:=Bool) (bif (r6 != x4) then (some (.inr true)) else ((v7 c_1 x4).bind fun r8=>some (.inr (!r8)))) fun u7:Bool=>bif u7 then (some (.inl false)) else (self (an (x4+1)))) else (some (.inr ()))
noncomputable def js (c_1:Contract): Int→Option (Bool⊕Unit):=ay (iL c_1)
theorem vf (c_1:Contract): ∀a,Fin1 fun f=>iL c_1 f a:=by
 intro a
 unfold iL
 repeat first|exact aU|exact br|refine bA ?_ ?_|refine bg ?_ (fun _=>?_)|refine bf ?_ (fun _=>?_)|refine bi ?_ (fun _=>?_)|refine bz (fun _=>?_)
theorem Au (c_1:Contract)(x:Int):js c_1 x=iL c_1 (js c_1) x:=bI (vf c_1) x
noncomputable def ww (c_1:Contract):Option Bool:=
 (dj (len c_1.Clauses) 1 12).bind fun r2=>bd (ρ:=Bool) (bif (!r2) then (some (.inr true)) else ((tD c_1).bind fun r11=>some (.inr (!r11)))) fun u3:Bool=>bif u3 then (some false) else (bd (ρ:=Bool) (js c_1 0) fun u9:Unit=>(re c_1).bind fun r10=>some (decide ((len r10)≤16)))
noncomputable def qg (slf_Ffbz:Int→Option ac)(n_1:Int):Option ac:=
 bif (decide (n_1<0)) then ((slf_Ffbz (an (0 - n_1))).bind fun r2=>(aC ([45]:ac) r2).bind fun s3=>some s3) else (bif (decide (n_1<10)) then ((kd ([48,49,50,51,52,53,54,55,56,57]:ac) n_1 (an (n_1+1))).bind fun s4=>some s4) else ((slf_Ffbz (an (n_1.tdiv 10))).bind fun r5=>(kd ([48,49,50,51,52,53,54,55,56,57]:ac) (n_1.tmod 10) (an ((n_1.tmod 10)+1))).bind fun s6=>(aC r5 s6).bind fun s7=>some s7))
noncomputable def nI (slf_Ffbz:Int→Option ac)(x:Int):Option ac:=qg slf_Ffbz x
noncomputable def qy (n_1:Int):Option ac:=ay nI n_1
theorem Oh:∀x,Fin1 fun slf_Ffbz=>nI slf_Ffbz x:=by
 intro x
 unfold nI qg
 repeat first|exact aU|exact br|refine bA ?_ ?_|refine bg ?_ (fun _=>?_)|refine bf ?_ (fun _=>?_)|refine bi ?_ (fun _=>?_)|refine bz (fun _=>?_)
theorem PT (n_1:Int):qy n_1=qg (ay nI) n_1:=bI Oh n_1
noncomputable def xD (x_1:Int):Option ac:=
 cJ (bif (decide (x_1<0)) then ((an (0 - x_1)),([45]:ac)) else (x_1,([]:ac))) fun u2:Int×ac=>(qy (an (u2.1.tdiv 100))).bind fun r3=>(aC u2.2 r3).bind fun s4=>(aC s4 ([46]:ac)).bind fun s5=>bd (ρ:=ac) (bif (decide ((u2.1.tmod 100)<10)) then ((aC s5 ([48]:ac)).bind fun s9=>some (.inr s9)) else (some (.inr s5))) fun u6:ac=>(qy (u2.1.tmod 100)).bind fun r7=>(aC u6 r7).bind fun s8=>some s8
noncomputable def wa (year_1:Int)(month_2:Int):Option Int:=
 cJ (bif (month_2==4) then (month_2==4) else (cJ (bif (month_2==6) then (month_2==6) else (cJ (bif (month_2==9) then (month_2==9) else (month_2==11)) fun u5:Bool=>u5)) fun u4:Bool=>u4)) fun u3:Bool=>bif u3 then (some 30) else (bif (month_2==2) then (bif ((year_1.tmod 4)==0) then (some 29) else (some 28)) else (some 31))
noncomputable def iO (d_1:Date)(self:(Int×Int)→Option (Int⊕Int))(x2:Int×Int):Option (Int⊕Int):=
 bif (decide (x2.2<d_1.Month)) then ((wa d_1.Year x2.2).bind fun r3=>self ((an (x2.1+r3)),(an (x2.2+1)))) else (some (.inr x2.1))
noncomputable def pU (d_1:Date): (Int×Int)→Option (Int⊕Int):=ay (iO d_1)
theorem vA (d_1:Date): ∀a,Fin1 fun f=>iO d_1 f a:=by
 intro a
 unfold iO
 repeat first|exact aU|exact br|refine bA ?_ ?_|refine bg ?_ (fun _=>?_)|refine bf ?_ (fun _=>?_)|refine bi ?_ (fun _=>?_)|refine bz (fun _=>?_)
theorem Ae (d_1:Date)(x:Int×Int):pU d_1 x=iO d_1 (pU d_1) x:=bI (vA d_1) x
noncomputable def qN (d_1:Date):Option Int:=
 bd (ρ:=Int) (pU d_1 ((an ((an (365*(an (d_1.Year - 2000))))+(an ((an ((an (d_1.Year - 2000))+3)).tdiv 4)))),1)) fun u4:Int=>some (an ((an (u4+d_1.Day)) - 1))
noncomputable def iE (day_1:Int)(self:Int→Option (Date⊕Int))(x2:Int):Option (Date⊕Int):=
 bR (ρ:=Date) (bif (decide (x2<2099)) then ((qN (Date.mk (an (x2+1)) 1 1)).bind fun r4=>some (.inr (decide (r4≤day_1)))) else (some (.inr false))) fun u3:Bool=>bif u3 then (self (an (x2+1))) else (some (.inr x2))
noncomputable def pI (day_1:Int): Int→Option (Date⊕Int):=ay (iE day_1)
theorem vb (day_1:Int): ∀a,Fin1 fun f=>iE day_1 f a:=by
 intro a
 unfold iE
 repeat first|exact aU|exact br|refine bA ?_ ?_|refine bg ?_ (fun _=>?_)|refine bf ?_ (fun _=>?_)|refine bi ?_ (fun _=>?_)|refine bz (fun _=>?_)
theorem zo (day_1:Int)(x:Int):pI day_1 x=iE day_1 (pI day_1) x:=bI (vb day_1) x
noncomputable def iV (day_1:Int)(u5:Int)(self:Int→Option (Date⊕Int))(x6:Int):Option (Date⊕Int):=
 bR (ρ:=Date) (bif (decide (x6<12)) then ((qN (Date.mk u5 (an (x6+1)) 1)).bind fun r8=>some (.inr (decide (r8≤day_1)))) else (some (.inr false))) fun u7:Bool=>bif u7 then (self (an (x6+1))) else (some (.inr x6))
noncomputable def pE (day_1:Int)(u5:Int):Int→Option (Date⊕Int):=ay (iV day_1 u5)
theorem va (day_1:Int)(u5:Int):∀a,Fin1 fun f=>iV day_1 u5 f a:=by
 intro a
 unfold iV
 repeat first|exact aU|exact br|refine bA ?_ ?_|refine bg ?_ (fun _=>?_)|refine bf ?_ (fun _=>?_)|refine bi ?_ (fun _=>?_)|refine bz (fun _=>?_)
theorem yt (day_1:Int)(u5:Int)(x:Int):pE day_1 u5 x=iV day_1 u5 (pE day_1 u5) x:=bI (va day_1 u5) x
noncomputable def qO (day_1:Int):Option Date:=
 bd (ρ:=Date) (pI day_1 2000) fun u5:Int=>bd (ρ:=Date) (pE day_1 u5 1) fun u9:Int=>(qN (Date.mk u5 u9 1)).bind fun r10=>some (Date.mk u5 u9 (an ((an (day_1 - r10))+1)))
noncomputable def rF (n_1:Int):Option ac:=
 bif (decide (n_1<10)) then ((qy n_1).bind fun r2=>(aC ([48]:ac) r2).bind fun s3=>some s3) else ((qy n_1).bind fun r4=>some r4)
noncomputable def wo (day_1:Int):Option ac:=
 (qO day_1).bind fun r2=>(qy r2.Year).bind fun r3=>(aC r3 ([45]:ac)).bind fun s4=>(rF r2.Month).bind fun r5=>(aC s4 r5).bind fun s6=>(aC s6 ([45]:ac)).bind fun s7=>(rF r2.Day).bind fun r8=>(aC s7 r8).bind fun s9=>some s9
noncomputable def pL (slf_Ffcq:Condition→Option ac)(c_1:Condition):Option ac:=
 bif (c_1.Op==1) then (some ([116,114,117,101]:ac)) else (bif (c_1.Op==2) then (some c_1.Name) else (bif (c_1.Op==3) then ((wo c_1.Day).bind fun r2=>(aC ([102,114,111,109,32]:ac) r2).bind fun s3=>some s3) else (bif (c_1.Op==4) then ((aP c_1.Parts 0).bind fun e4=>(slf_Ffcq e4).bind fun r5=>(aC ([110,111,116,32]:ac) r5).bind fun s6=>some s6) else (bif (c_1.Op==5) then ((aP c_1.Parts 0).bind fun e7=>(slf_Ffcq e7).bind fun r8=>(aC ([40]:ac) r8).bind fun s9=>(aC s9 ([32,97,110,100,32]:ac)).bind fun s10=>(aP c_1.Parts 1).bind fun e11=>(slf_Ffcq e11).bind fun r12=>(aC s10 r12).bind fun s13=>(aC s13 ([41]:ac)).bind fun s14=>some s14) else ((aP c_1.Parts 0).bind fun e15=>(slf_Ffcq e15).bind fun r16=>(aC ([40]:ac) r16).bind fun s17=>(aC s17 ([32,111,114,32]:ac)).bind fun s18=>(aP c_1.Parts 1).bind fun e19=>(slf_Ffcq e19).bind fun r20=>(aC s18 r20).bind fun s21=>(aC s21 ([41]:ac)).bind fun s22=>some s22)))))
noncomputable def fp (slf_Ffcq:Condition→Option ac)(x:Condition):Option ac:=pL slf_Ffcq x
noncomputable def FB (c_1:Condition):Option ac:=ay fp c_1
theorem MQ:∀x,Fin1 fun slf_Ffcq=>fp slf_Ffcq x:=by
 intro x
 unfold fp pL
 repeat first|exact aU|exact br|refine bA ?_ ?_|refine bg ?_ (fun _=>?_)|refine bf ?_ (fun _=>?_)|refine bi ?_ (fun _=>?_)|refine bz (fun _=>?_)
theorem P5 (c_1:Condition):FB c_1=pL (ay fp) c_1:=bI MQ c_1
noncomputable def xz (c_1:Contract)(i_2:Int):Option ac:=
 (aP c_1.Clauses i_2).bind fun e3=>(aC e3.Id ([58,32]:ac)).bind fun s4=>(aP c_1.Parties e3.Party).bind fun e5=>(aC s4 e5).bind fun s6=>(aP c_1.Parties e3.Other).bind fun e7=>bd (ρ:=ac) (bif (e3.Kind==1) then ((aC s6 ([32,109,117,115,116,32]:ac)).bind fun s16=>(aC s16 e3.Action).bind fun s17=>(aC s17 ([32,102,111,114,32]:ac)).bind fun s18=>(aC s18 e7).bind fun s19=>bR (ρ:=ac) (bif (decide (e3.Amount>0)) then ((aC s19 ([32,112,97,121,105,110,103,32]:ac)).bind fun s25=>(xD e3.Amount).bind fun r26=>(aC s25 r26).bind fun s27=>some (.inr s27)) else (some (.inr s19))) fun u20:ac=>(aC u20 ([32,119,105,116,104,105,110,32]:ac)).bind fun s21=>(qy e3.Within).bind fun r22=>(aC s21 r22).bind fun s23=>(aC s23 ([32,100,97,121,115]:ac)).bind fun s24=>some (.inr s24)) else (bR (ρ:=ac) (bif (e3.Kind==2) then ((aC s6 ([32,109,117,115,116,32,110,111,116,32]:ac)).bind fun s29=>(aC s29 e3.Action).bind fun s30=>(aC s30 ([32,97,103,97,105,110,115,116,32]:ac)).bind fun s31=>(aC s31 e7).bind fun s32=>some (.inr s32)) else (bR (ρ:=ac) (bif (e3.Kind==3) then ((aC s6 ([32,109,97,121,32]:ac)).bind fun s34=>(aC s34 e3.Action).bind fun s35=>(aC s35 ([32,102,111,114,32]:ac)).bind fun s36=>(aC s36 e7).bind fun s37=>some (.inr s37)) else ((aC s6 ([32,99,97,110,32]:ac)).bind fun s38=>(aC s38 e3.Action).bind fun s39=>(aC s39 ([32,116,111,119,97,114,100,32]:ac)).bind fun s40=>(aC s40 e7).bind fun s41=>some (.inr s41))) fun u33:ac=>some (.inr u33))) fun u28:ac=>some (.inr u28))) fun u8:ac=>(aC u8 ([32,119,104,101,110,32]:ac)).bind fun s9=>(FB e3.When).bind fun r10=>(aC s9 r10).bind fun s11=>bif (e3.Repair==([]:ac)) then (some s11) else (bif (e3.Kind==4) then ((aC s11 ([32,116,104,101,110,32]:ac)).bind fun s12=>(aC s12 e3.Repair).bind fun s13=>some s13) else ((aC s11 ([32,101,108,115,101,32]:ac)).bind fun s14=>(aC s14 e3.Repair).bind fun s15=>some s15))
noncomputable def wY (c_1:Contract)(i_2:Int):Option (ac×Bool):=
 (ww c_1).bind fun r3=>bd (ρ:=ac×Bool) (bif (!r3) then (some (.inr true)) else ((dj i_2 0 (an ((len c_1.Clauses) - 1))).bind fun r6=>some (.inr (!r6)))) fun u4:Bool=>bif u4 then (some (([]:ac),false)) else ((xz c_1 i_2).bind fun r5=>some (r5,true))
noncomputable def lc (n_1:Int)(low_2:Int)(high_3:Int):Option Bool:=
 cJ (bif (decide (n_1≥low_2)) then (decide (n_1≤high_3)) else false) fun u4:Bool=>some u4
noncomputable def JE (s_1:ac)(c_2:Int):Option Int:=
 (nK s_1 c_2).bind fun r3=>some r3
noncomputable def K7 (s_1:ac)(substr_2:ac):Option Int:=
 cJ (bif ((len substr_2)==0) then true else (substr_2==s_1)) fun u3:Bool=>bif u3 then (some 0) else (bif ((len substr_2)==1) then ((aP substr_2 0).bind fun c4=>(JE s_1 (c4.toNat:Int)).bind fun r5=>some r5) else (bif (decide ((len substr_2)≥(len s_1))) then (some (-1)) else none))
noncomputable def B5 (s_1:ac)(substr_2:ac):Option Int:=
 (K7 s_1 substr_2).bind fun r3=>some r3
noncomputable def om (s_1:ac)(substr_2:ac)(self:(ac×Int)→Option (Int⊕Unit))(x5:ac×Int):Option (Int⊕Unit):=
 (B5 x5.1 substr_2).bind fun r6=>bif (r6==(-1)) then (some (.inl x5.2)) else ((kd x5.1 (an (r6+(len substr_2))) (len x5.1)).bind fun s7=>self (s7,(an (x5.2+1))))
noncomputable def Hp (s_1:ac)(substr_2:ac): (ac×Int)→Option (Int⊕Unit):=ay (om s_1 substr_2)
theorem GO (s_1:ac)(substr_2:ac): ∀a,Fin1 fun f=>om s_1 substr_2 f a:=by
 intro a
 unfold om
 repeat first|exact aU|exact br|refine bA ?_ ?_|refine bg ?_ (fun _=>?_)|refine bf ?_ (fun _=>?_)|refine bi ?_ (fun _=>?_)|refine bz (fun _=>?_)
noncomputable def Fx (s_1:ac)(substr_2:ac):Option Int:=
 bif ((len substr_2)==0) then none else (bif ((len substr_2)==1) then ((aP substr_2 0).bind fun c3=>(si s_1 (c3.toNat:Int)).bind fun r4=>some r4) else (bd (ρ:=Int) (Hp s_1 substr_2 (s_1,0)) fun u8:Unit=>none))
noncomputable def nS (s_1:ac)(sep_2:ac)(sepSave_3:Int)(n_4:Int)(u5:Int)(self:(ac×Int×(List ac))→Option ((List ac)⊕(ac×Int×(List ac))))(x7:ac×Int×(List ac)):Option ((List ac)⊕(ac×Int×(List ac))):=
 bif (decide (x7.2.1<(an ((if (an ((len s_1)+1))<u5 then (an ((len s_1)+1)) else u5) - 1)))) then ((B5 x7.1 sep_2).bind fun r8=>bif (decide (r8<0)) then (some (.inr (x7.1,x7.2.1,x7.2.2))) else ((kd x7.1 0 (an (r8+sepSave_3))).bind fun s9=>(aP x7.2.2 x7.2.1).bind fun e10=>(kd x7.1 (an (r8+(len sep_2))) (len x7.1)).bind fun s11=>self (s11,(an (x7.2.1+1)),(eU x7.2.2 x7.2.1 s9)))) else (some (.inr (x7.1,x7.2.1,x7.2.2)))
noncomputable def uw (s_1:ac)(sep_2:ac)(sepSave_3:Int)(n_4:Int)(u5:Int):(ac×Int×(List ac))→Option ((List ac)⊕(ac×Int×(List ac))):=ay (nS s_1 sep_2 sepSave_3 n_4 u5)
theorem uG (s_1:ac)(sep_2:ac)(sepSave_3:Int)(n_4:Int)(u5:Int):∀a,Fin1 fun f=>nS s_1 sep_2 sepSave_3 n_4 u5 f a:=by
 intro a
 unfold nS
 repeat first|exact aU|exact br|refine bA ?_ ?_|refine bg ?_ (fun _=>?_)|refine bf ?_ (fun _=>?_)|refine bi ?_ (fun _=>?_)|refine bz (fun _=>?_)
noncomputable def Eu (s_1:ac)(sep_2:ac)(sepSave_3:Int)(n_4:Int):Option (List ac):=
 bif (n_4==0) then (some []) else (bif (sep_2==([]:ac)) then none else (bd (ρ:=(List ac)) (bif (decide (n_4<0)) then ((Fx s_1 sep_2).bind fun r16=>some (.inr (an (r16+1)))) else (some (.inr n_4))) fun u5:Int=>(rk 16 [] (if (an ((len s_1)+1))<u5 then (an ((len s_1)+1)) else u5)).bind fun m6=>bd (ρ:=(List ac)) (uw s_1 sep_2 sepSave_3 n_4 u5 (s_1,0,m6)) fun u12:ac×Int×(List ac)=>(aP u12.2.2 u12.2.1).bind fun e13=>(ga (eU u12.2.2 u12.2.1 u12.1).length 0 (an (u12.2.1+1))).bind fun s14=>(gn (eU u12.2.2 u12.2.1 u12.1) (0+Int.toNat (0)) (Int.toNat (an (u12.2.1+1)) - Int.toNat (0))).bind fun p15=>some p15))
noncomputable def vP (s_1:ac)(sep_2:ac):Option (List ac):=
 (Eu s_1 sep_2 0 (-1)).bind fun r3=>some r3
noncomputable def jh (s_1:List ac)(v_2:ac)(self:Int→Option (Int⊕Unit))(x3:Int):Option (Int⊕Unit):=
 bif (decide (x3<(len s_1))) then ((aP s_1 x3).bind fun e4=>bif (v_2==e4) then (some (.inl x3)) else (self (an (x3+1)))) else (some (.inr ()))
noncomputable def na (s_1:List ac)(v_2:ac): Int→Option (Int⊕Unit):=ay (jh s_1 v_2)
theorem uL (s_1:List ac)(v_2:ac): ∀a,Fin1 fun f=>jh s_1 v_2 f a:=by
 intro a
 unfold jh
 repeat first|exact aU|exact br|refine bA ?_ ?_|refine bg ?_ (fun _=>?_)|refine bf ?_ (fun _=>?_)|refine bi ?_ (fun _=>?_)|refine bz (fun _=>?_)
theorem yS (s_1:List ac)(v_2:ac)(x:Int):na s_1 v_2 x=jh s_1 v_2 (na s_1 v_2) x:=bI (uL s_1 v_2) x
noncomputable def xh (s_1:List ac)(v_2:ac):Option Int:=
 bd (ρ:=Int) (na s_1 v_2 0) fun u5:Unit=>some (-1)
noncomputable def oT (s_1:List ac)(v_2:ac):Option Bool:=
 (xh s_1 v_2).bind fun r3=>some (decide (r3≥0))
noncomputable def lN (s_1:ac)(self:Int→Option (Bool⊕Unit))(x4:Int):Option (Bool⊕Unit):=
 bif (decide (x4<(len s_1))) then ((aP s_1 x4).bind fun c5=>cJ (bif (decide ((c5.toNat:Int)<97)) then (cJ (bif (decide ((c5.toNat:Int)<48)) then true else (decide ((c5.toNat:Int)>57))) fun u7:Bool=>u7) else (cJ (bif (decide ((c5.toNat:Int)>122)) then (cJ (bif (decide ((c5.toNat:Int)<48)) then true else (decide ((c5.toNat:Int)>57))) fun u9:Bool=>u9) else false) fun u8:Bool=>u8)) fun u6:Bool=>bif u6 then (some (.inl false)) else (self (an (x4+1)))) else (some (.inr ()))
noncomputable def sK (s_1:ac): Int→Option (Bool⊕Unit):=ay (lN s_1)
theorem AV (s_1:ac): ∀a,Fin1 fun f=>lN s_1 f a:=by
 intro a
 unfold lN
 repeat first|exact aU|exact br|refine bA ?_ ?_|refine bg ?_ (fun _=>?_)|refine bf ?_ (fun _=>?_)|refine bi ?_ (fun _=>?_)|refine bz (fun _=>?_)
theorem KE (s_1:ac)(x:Int):sK s_1 x=lN s_1 (sK s_1) x:=bI (AV s_1) x
noncomputable def tk (s_1:ac):Option Bool:=
 (lc (len s_1) 1 8).bind fun r2=>bd (ρ:=Bool) (bif (!r2) then (some (.inr true)) else ((aP s_1 0).bind fun c13=>bR (ρ:=Bool) (bif (decide ((c13.toNat:Int)<97)) then (some (.inr true)) else ((aP s_1 0).bind fun c15=>some (.inr (decide ((c15.toNat:Int)>122))))) fun u14:Bool=>some (.inr u14))) fun u3:Bool=>bif u3 then (some false) else (bd (ρ:=Bool) (sK s_1 0) fun u10:Unit=>(vP ([116,114,117,101,32,102,114,111,109,32,110,111,116,32,97,110,100,32,111,114,32,98,111,116,104,32,101,105,116,104,101,114,32,105,116,32,105,110]:ac) ([32]:ac)).bind fun r11=>(oT r11 s_1).bind fun r12=>some (!r12))
noncomputable def jU (list_1:List ac)(self:Int→Option (Bool⊕Unit))(x2:Int):Option (Bool⊕Unit):=
 bif (decide (x2<(len list_1))) then ((aP list_1 x2).bind fun e3=>(tk e3).bind fun r4=>bR (ρ:=Bool) (bif (!r4) then (some (.inr true)) else ((kd list_1 0 x2).bind fun s6=>(oT s6 e3).bind fun r7=>some (.inr r7))) fun u5:Bool=>bif u5 then (some (.inl false)) else (self (an (x2+1)))) else (some (.inr ()))
noncomputable def tC (list_1:List ac): Int→Option (Bool⊕Unit):=ay (jU list_1)
theorem ye (list_1:List ac): ∀a,Fin1 fun f=>jU list_1 f a:=by
 intro a
 unfold jU
 repeat first|exact aU|exact br|refine bA ?_ ?_|refine bg ?_ (fun _=>?_)|refine bf ?_ (fun _=>?_)|refine bi ?_ (fun _=>?_)|refine bz (fun _=>?_)
theorem Dd (list_1:List ac)(x:Int):tC list_1 x=jU list_1 (tC list_1) x:=bI (ye list_1) x
noncomputable def FQ (list_1:List ac):Option Bool:=
 bd (ρ:=Bool) (tC list_1 0) fun u8:Unit=>(lc (len list_1) 2 4).bind fun r9=>some r9
noncomputable def KK (x_1:Clause)(a_2:ac):Option Bool:=
 some (x_1.Id==a_2)
noncomputable def kx (s_1:List Clause)(f_2:ac)(self:Int→Option (Int⊕Unit))(x3:Int):Option (Int⊕Unit):=
 bif (decide (x3<(len s_1))) then ((aP s_1 x3).bind fun e4=>(KK e4 f_2).bind fun r5=>bif r5 then (some (.inl x3)) else (self (an (x3+1)))) else (some (.inr ()))
noncomputable def pn (s_1:List Clause)(f_2:ac): Int→Option (Int⊕Unit):=ay (kx s_1 f_2)
theorem vp (s_1:List Clause)(f_2:ac): ∀a,Fin1 fun f=>kx s_1 f_2 f a:=by
 intro a
 unfold kx
 repeat first|exact aU|exact br|refine bA ?_ ?_|refine bg ?_ (fun _=>?_)|refine bf ?_ (fun _=>?_)|refine bi ?_ (fun _=>?_)|refine bz (fun _=>?_)
theorem Jb (s_1:List Clause)(f_2:ac)(x:Int):pn s_1 f_2 x=kx s_1 f_2 (pn s_1 f_2) x:=bI (vp s_1 f_2) x
noncomputable def BN (s_1:List Clause)(f_2:ac):Option Int:=
 bd (ρ:=Int) (pn s_1 f_2 0) fun u6:Unit=>some (-1)
noncomputable def xG (c_1:Contract)(id_2:ac):Option Int:=
 (BN c_1.Clauses id_2).bind fun r3=>some r3
noncomputable def pg (day_1:Int):Option Bool:=
 (lc day_1 0 36524).bind fun r2=>some r2
noncomputable def ji (slf_Ffl:(Condition×Int)→Option Int)(c_1:Condition)(so_2:Int)(self:(Int×Int)→Option (Int⊕Int))(x5:Int×Int):Option (Int⊕Int):=
 bif (decide (x5.2<(len c_1.Parts))) then ((aP c_1.Parts x5.2).bind fun e6=>(slf_Ffl (e6,x5.1)).bind fun r7=>bif (decide (r7<0)) then (some (.inl (-1))) else (self (r7,(an (x5.2+1))))) else (some (.inr x5.1))
noncomputable def jD (slf_Ffl:(Condition×Int)→Option Int)(c_1:Condition)(so_2:Int): (Int×Int)→Option (Int⊕Int):=ay (ji slf_Ffl c_1 so_2)
theorem yk (slf_Ffl:(Condition×Int)→Option Int)(c_1:Condition)(so_2:Int): ∀a,Fin1 fun f=>ji slf_Ffl c_1 so_2 f a:=by
 intro a
 unfold ji
 repeat first|exact aU|exact br|refine bA ?_ ?_|refine bg ?_ (fun _=>?_)|refine bf ?_ (fun _=>?_)|refine bi ?_ (fun _=>?_)|refine bz (fun _=>?_)
theorem CW (slf_Ffl:(Condition×Int)→Option Int)(c_1:Condition)(so_2:Int)(x:Int×Int):jD slf_Ffl c_1 so_2 x=ji slf_Ffl c_1 so_2 (jD slf_Ffl c_1 so_2) x:=bI (yk slf_Ffl c_1 so_2) x
noncomputable def ug (slf_Ffl:(Condition×Int)→Option Int)(c_1:Condition)(so_2:Int):Option Int:=
 bd (ρ:=Int) (bif (decide ((an (so_2+1))>15)) then (some (.inr true)) else ((lc c_1.Op 1 6).bind fun r20=>bR (ρ:=Int) (bif (!r20) then (some (.inr true)) else ((aP [(-1),0,0,0,1,2,2] c_1.Op).bind fun e22=>some (.inr ((len c_1.Parts) != e22)))) fun u21:Bool=>some (.inr u21))) fun u3:Bool=>bif u3 then (some (-1)) else (bd (ρ:=Int) (bif (!((c_1.Op==2)==(!(c_1.Name==([]:ac))))) then (some (.inr true)) else (bR (ρ:=Int) (bif (c_1.Op==2) then ((tk c_1.Name).bind fun r10=>bR (ρ:=Int) (bif (!r10) then (some (.inr true)) else (bR (ρ:=Int) (bif (c_1.Op != 3) then (bR (ρ:=Int) (bif (c_1.Day != 0) then (some (.inr true)) else ((pg c_1.Day).bind fun r14=>some (.inr (!r14)))) fun u13:Bool=>some (.inr u13)) else ((pg c_1.Day).bind fun r15=>some (.inr (!r15)))) fun u12:Bool=>some (.inr u12))) fun u11:Bool=>some (.inr u11)) else (bR (ρ:=Int) (bif (c_1.Op != 3) then (bR (ρ:=Int) (bif (c_1.Day != 0) then (some (.inr true)) else ((pg c_1.Day).bind fun r18=>some (.inr (!r18)))) fun u17:Bool=>some (.inr u17)) else ((pg c_1.Day).bind fun r19=>some (.inr (!r19)))) fun u16:Bool=>some (.inr u16))) fun u9:Bool=>some (.inr u9))) fun u4:Bool=>bif u4 then (some (-1)) else (bd (ρ:=Int) (jD slf_Ffl c_1 so_2 ((an (so_2+1)),0)) fun u8:Int=>some u8))
noncomputable def jQ (slf_Ffl:(Condition×Int)→Option Int)(x:Condition×Int):Option Int:=ug slf_Ffl x.1 x.2
noncomputable def JZ (c_1:Condition)(so_2:Int):Option Int:=ay jQ (c_1,so_2)
theorem QN:∀x,Fin1 fun slf_Ffl=>jQ slf_Ffl x:=by
 intro x
 unfold jQ ug
 repeat first|exact aU|exact br|exact il|exact kg|exact gj|exact iJ|exact gO|exact gP|refine bA ?_ ?_|refine bg ?_ (fun _=>?_)|refine bf ?_ (fun _=>?_)|refine bi ?_ (fun _=>?_)|refine bz (fun _=>?_)|refine oh (fun _=>?_) | unfold jD | unfold ji
theorem RH (c_1:Condition)(so_2:Int):JZ c_1 so_2=ug (ay jQ) c_1 so_2:=bI QN (c_1,so_2)
noncomputable def Ft (c_1:Condition):Option Bool:=
 (JZ c_1 0).bind fun r2=>some (decide (r2>0))
noncomputable def F0 (c_1:Contract)(i_2:Int):Option Bool:=
 (aP c_1.Clauses i_2).bind fun e3=>(tk e3.Id).bind fun r4=>bd (ρ:=Bool) (bif (!r4) then (some (.inr true)) else ((xG c_1 e3.Id).bind fun r23=>bR (ρ:=Bool) (bif (r23 != i_2) then (some (.inr true)) else ((tk e3.Action).bind fun r25=>bR (ρ:=Bool) (bif (!r25) then (some (.inr true)) else ((lc e3.Kind 1 4).bind fun r27=>some (.inr (!r27)))) fun u26:Bool=>some (.inr u26))) fun u24:Bool=>some (.inr u24))) fun u5:Bool=>bif u5 then (some false) else ((lc e3.Party 0 (an ((len c_1.Parties) - 1))).bind fun r6=>bd (ρ:=Bool) (bif (!r6) then (some (.inr true)) else ((lc e3.Other 0 (an ((len c_1.Parties) - 1))).bind fun r19=>bR (ρ:=Bool) (bif (!r19) then (some (.inr true)) else (bR (ρ:=Bool) (bif (e3.Party==e3.Other) then (some (.inr true)) else ((Ft e3.When).bind fun r22=>some (.inr (!r22)))) fun u21:Bool=>some (.inr u21))) fun u20:Bool=>some (.inr u20))) fun u7:Bool=>bif u7 then (some false) else ((lc e3.Amount 0 1000000).bind fun r8=>bd (ρ:=Bool) (bif (!r8) then (some (.inr true)) else ((lc e3.Within 0 400).bind fun r15=>cJ (bif (!r15) then true else (cJ (bif (e3.Kind != 1) then (cJ (bif (e3.Amount != 0) then true else (e3.Within != 0)) fun u18:Bool=>u18) else false) fun u17:Bool=>u17)) fun u16:Bool=>some (.inr u16))) fun u9:Bool=>bif u9 then (some false) else (bif (e3.Repair==([]:ac)) then (some true) else ((xG c_1 e3.Repair).bind fun r10=>bd (ρ:=Bool) (bif (e3.Kind != 3) then (bR (ρ:=Bool) (bif (decide (r10≥0)) then (bR (ρ:=Bool) (bif (r10 != i_2) then ((aP c_1.Clauses r10).bind fun e14=>some (.inr (e14.Kind==1))) else (some (.inr false))) fun u13:Bool=>some (.inr u13)) else (some (.inr false))) fun u12:Bool=>some (.inr u12)) else (some (.inr false))) fun u11:Bool=>some u11))))
noncomputable def iB (slf_Ffe:(Condition×(List ac))→Option (List ac))(c_3:Condition)(list_4:List ac)(self:(Int×(List ac))→Option ((List ac)⊕(List ac)))(x4:Int×(List ac)):Option ((List ac)⊕(List ac)):=
 bif (decide (x4.1<(len c_3.Parts))) then ((aP c_3.Parts x4.1).bind fun e5=>(slf_Ffe (e5,x4.2)).bind fun r6=>self ((an (x4.1+1)),r6)) else (some (.inr x4.2))
noncomputable def kZ (slf_Ffe:(Condition×(List ac))→Option (List ac))(c_3:Condition)(list_4:List ac): (Int×(List ac))→Option ((List ac)⊕(List ac)):=ay (iB slf_Ffe c_3 list_4)
theorem zT (slf_Ffe:(Condition×(List ac))→Option (List ac))(c_3:Condition)(list_4:List ac): ∀a,Fin1 fun f=>iB slf_Ffe c_3 list_4 f a:=by
 intro a
 unfold iB
 repeat first|exact aU|exact br|refine bA ?_ ?_|refine bg ?_ (fun _=>?_)|refine bf ?_ (fun _=>?_)|refine bi ?_ (fun _=>?_)|refine bz (fun _=>?_)
theorem Cy (slf_Ffe:(Condition×(List ac))→Option (List ac))(c_3:Condition)(list_4:List ac)(x:Int×(List ac)):kZ slf_Ffe c_3 list_4 x=iB slf_Ffe c_3 list_4 (kZ slf_Ffe c_3 list_4) x:=bI (zT slf_Ffe c_3 list_4) x
noncomputable def uu (slf_Ffe:(Condition×(List ac))→Option (List ac))(c_3:Condition)(list_4:List ac):Option (List ac):=
 bd (ρ:=(List ac)) (bif (c_3.Op==2) then ((kc 16 list_4 [c_3.Name]).bind fun a8=>some (.inr a8)) else (some (.inr list_4))) fun u3:(List ac)=>bd (ρ:=(List ac)) (kZ slf_Ffe c_3 list_4 (0,u3)) fun u7:(List ac)=>some u7
noncomputable def la (slf_Ffe:(Condition×(List ac))→Option (List ac))(x:Condition×(List ac)):Option (List ac):=uu slf_Ffe x.1 x.2
noncomputable def KF (c_3:Condition)(list_4:List ac):Option (List ac):=ay la (c_3,list_4)
theorem Qf:∀x,Fin1 fun slf_Ffe=>la slf_Ffe x:=by
 intro x
 unfold la uu
 repeat first|exact aU|exact br|exact il|exact kg|exact gj|exact iJ|exact gO|exact gP|refine bA ?_ ?_|refine bg ?_ (fun _=>?_)|refine bf ?_ (fun _=>?_)|refine bi ?_ (fun _=>?_)|refine bz (fun _=>?_)|refine oh (fun _=>?_) | unfold kZ | unfold iB
theorem Rq (c_3:Condition)(list_4:List ac):KF c_3 list_4=uu (ay la) c_3 list_4:=bI Qf (c_3,list_4)
noncomputable def iM (s_2:List ac)(x2:Int)(self:(Int×Int×(List ac))→Option ((List ac)⊕(Int×(List ac))))(x6:Int×Int×(List ac)):Option ((List ac)⊕(Int×(List ac))):=
 bif (decide (x6.2.1<(((Int.toNat (len s_2) - Int.toNat x2):Nat):Int))) then ((ri x6.2.2 (0+Int.toNat x2) (Int.toNat (len s_2) - Int.toNat x2) x6.2.1).bind fun e7=>(ri x6.2.2 (0+Int.toNat x2) (Int.toNat (len s_2) - Int.toNat x2) (an (x6.2.1 - 1))).bind fun e8=>bR (ρ:=(List ac)) (bif (!(e7==e8)) then ((ri x6.2.2 (0+Int.toNat x2) (Int.toNat (len s_2) - Int.toNat x2) x6.2.1).bind fun e10=>(aP x6.2.2 x6.1).bind fun e11=>some (.inr ((an (x6.1+1)),(eU x6.2.2 x6.1 e10)))) else (some (.inr (x6.1,x6.2.2)))) fun u9:Int×(List ac)=>self (u9.1,(an (x6.2.1+1)),u9.2)) else (some (.inr (x6.1,x6.2.2)))
noncomputable def iq (s_2:List ac)(x2:Int):(Int×Int×(List ac))→Option ((List ac)⊕(Int×(List ac))):=ay (iM s_2 x2)
theorem vm (s_2:List ac)(x2:Int):∀a,Fin1 fun f=>iM s_2 x2 f a:=by
 intro a
 unfold iM
 repeat first|exact aU|exact br|refine bA ?_ ?_|refine bg ?_ (fun _=>?_)|refine bf ?_ (fun _=>?_)|refine bi ?_ (fun _=>?_)|refine bz (fun _=>?_)
theorem AK (s_2:List ac)(x2:Int)(x:Int×Int×(List ac)):iq s_2 x2 x=iM s_2 x2 (iq s_2 x2) x:=bI (vm s_2 x2) x
noncomputable def i8 (s_2:List ac)(self:Int→Option ((List ac)⊕(List ac)))(x2:Int):Option ((List ac)⊕(List ac)):=
 bif (decide (x2<(len s_2))) then ((aP s_2 x2).bind fun e3=>(aP s_2 (an (x2 - 1))).bind fun e4=>bif (e3==e4) then ((ga s_2.length x2 (len s_2)).bind fun s5=>bR (ρ:=(List ac)) (iq s_2 x2 (x2,1,s_2)) fun u15:Int×(List ac)=>(ga u15.2.length u15.1 (len u15.2)).bind fun s16=>(sR u15.2 (0+Int.toNat u15.1) (Int.toNat (len u15.2) - Int.toNat u15.1) []).bind fun k17=>(ga k17.length 0 u15.1).bind fun s18=>(gn k17 (0+Int.toNat (0)) (Int.toNat u15.1 - Int.toNat (0))).bind fun p19=>some (.inl p19)) else (self (an (x2+1)))) else (some (.inr s_2))
noncomputable def mZ (s_2:List ac): Int→Option ((List ac)⊕(List ac)):=ay (i8 s_2)
theorem uM (s_2:List ac): ∀a,Fin1 fun f=>i8 s_2 f a:=by
 intro a
 unfold i8
 repeat first|exact aU|exact br|refine bA ?_ ?_|refine bg ?_ (fun _=>?_)|refine bf ?_ (fun _=>?_)|refine bi ?_ (fun _=>?_)|refine bz (fun _=>?_)
theorem yT (s_2:List ac)(x:Int):mZ s_2 x=i8 s_2 (mZ s_2) x:=bI (uM s_2) x
noncomputable def wr (s_2:List ac):Option (List ac):=
 bif (decide ((len s_2)<2)) then (some s_2) else (bd (ρ:=(List ac)) (mZ s_2 1) fun u20:(List ac)=>some u20)
noncomputable def EQ (list_5:List ac):Option (List ac):=
 (pf list_5).bind fun r2=>bif Nat.beq r2.length list_5.length then ((wr r2).bind fun r4=>some r4) else none
noncomputable def kb (c_1:Contract)(self:(Int×(List ac))→Option ((List ac)⊕(List ac)))(x2:Int×(List ac)):Option ((List ac)⊕(List ac)):=
 bif (decide (x2.1<(len c_1.Clauses))) then ((aP c_1.Clauses x2.1).bind fun e3=>(kc 16 x2.2 [e3.Action]).bind fun a4=>(KF e3.When a4).bind fun r5=>self ((an (x2.1+1)),r5)) else (some (.inr x2.2))
noncomputable def mm (c_1:Contract): (Int×(List ac))→Option ((List ac)⊕(List ac)):=ay (kb c_1)
theorem Ak (c_1:Contract): ∀a,Fin1 fun f=>kb c_1 f a:=by
 intro a
 unfold kb
 repeat first|exact aU|exact br|refine bA ?_ ?_|refine bg ?_ (fun _=>?_)|refine bf ?_ (fun _=>?_)|refine bi ?_ (fun _=>?_)|refine bz (fun _=>?_)
theorem CE (c_1:Contract)(x:Int×(List ac)):mm c_1 x=kb c_1 (mm c_1) x:=bI (Ak c_1) x
noncomputable def EX (c_1:Contract):Option (List ac):=
 bd (ρ:=(List ac)) (mm c_1 (0,[])) fun u6:(List ac)=>(EQ u6).bind fun r7=>some r7
noncomputable def jT (c_1:Contract)(self:Int→Option (Bool⊕Unit))(x4:Int):Option (Bool⊕Unit):=
 bif (decide (x4<(len c_1.Clauses))) then ((F0 c_1 x4).bind fun r5=>bif (!r5) then (some (.inl false)) else (self (an (x4+1)))) else (some (.inr ()))
noncomputable def kQ (c_1:Contract): Int→Option (Bool⊕Unit):=ay (jT c_1)
theorem xN (c_1:Contract): ∀a,Fin1 fun f=>jT c_1 f a:=by
 intro a
 unfold jT
 repeat first|exact aU|exact br|refine bA ?_ ?_|refine bg ?_ (fun _=>?_)|refine bf ?_ (fun _=>?_)|refine bi ?_ (fun _=>?_)|refine bz (fun _=>?_)
theorem Cz (c_1:Contract)(x:Int):kQ c_1 x=jT c_1 (kQ c_1) x:=bI (xN c_1) x
noncomputable def FC (c_1:Contract):Option Bool:=
 (FQ c_1.Parties).bind fun r2=>bd (ρ:=Bool) (bif (!r2) then (some (.inr true)) else ((lc (len c_1.Clauses) 1 12).bind fun r8=>some (.inr (!r8)))) fun u3:Bool=>bif u3 then (some false) else (bd (ρ:=Bool) (kQ c_1 0) fun u6:Unit=>(EX c_1).bind fun r7=>some (decide ((len r7)≤16)))
noncomputable def iG (n_1:Int):Option Int:=
 some (if (an (0 - n_1))>n_1 then (an (0 - n_1)) else n_1)
noncomputable def jS (n_1:Int)(digits_2:Int)(self:ac→Option (ac⊕ac))(x4:ac):Option (ac⊕ac):=
 bif (decide ((len x4)<digits_2)) then ((aC ([48]:ac) x4).bind fun s5=>self s5) else (some (.inr x4))
noncomputable def sB (n_1:Int)(digits_2:Int): ac→Option (ac⊕ac):=ay (jS n_1 digits_2)
theorem yA (n_1:Int)(digits_2:Int): ∀a,Fin1 fun f=>jS n_1 digits_2 f a:=by
 intro a
 unfold jS
 repeat first|exact aU|exact br|refine bA ?_ ?_|refine bg ?_ (fun _=>?_)|refine bf ?_ (fun _=>?_)|refine bi ?_ (fun _=>?_)|refine bz (fun _=>?_)
theorem CN (n_1:Int)(digits_2:Int)(x:ac):sB n_1 digits_2 x=jS n_1 digits_2 (sB n_1 digits_2) x:=bI (yA n_1 digits_2) x
noncomputable def rn (n_1:Int)(digits_2:Int):Option ac:=
 (mJ n_1).bind fun r3=>bd (ρ:=ac) (sB n_1 digits_2 r3) fun u6:ac=>some u6
noncomputable def Fi (x_1:Int):Option ac:=
 cJ (bif (decide (x_1<0)) then ([45]:ac) else ([]:ac)) fun u2:ac=>(iG x_1).bind fun r3=>(mJ (an (r3.tdiv 100))).bind fun r4=>(aC u2 r4).bind fun s5=>(aC s5 ([46]:ac)).bind fun s6=>(iG x_1).bind fun r7=>(rn (r7.tmod 100) 2).bind fun r8=>(aC s6 r8).bind fun s9=>some s9
noncomputable def FA (n_1:Int):Option ac:=
 (mJ n_1).bind fun r2=>some r2
noncomputable def yH (year_1:Int)(month_2:Int):Option Int:=
 bif (month_2==2) then (bif ((year_1.tmod 4)==0) then (some 29) else (some 28)) else (cJ (bif (month_2==4) then (month_2==4) else (cJ (bif (month_2==6) then (month_2==6) else (cJ (bif (month_2==9) then (month_2==9) else (month_2==11)) fun u5:Bool=>u5)) fun u4:Bool=>u4)) fun u3:Bool=>bif u3 then (some 30) else (some 31))
noncomputable def CG (year_1:Int):Option Int:=
 (yH year_1 2).bind fun r2=>some (an (337+r2))
noncomputable def jY (day_1:Int)(self:(Int×Int)→Option (Date⊕(Int×Int)))(x2:Int×Int):Option (Date⊕(Int×Int)):=
 (CG x2.2).bind fun r3=>bif (decide (x2.1≥r3)) then ((CG x2.2).bind fun r4=>self ((an (x2.1 - r4)),(an (x2.2+1)))) else (some (.inr (x2.1,x2.2)))
noncomputable def tv (day_1:Int): (Int×Int)→Option (Date⊕(Int×Int)):=ay (jY day_1)
theorem yM (day_1:Int): ∀a,Fin1 fun f=>jY day_1 f a:=by
 intro a
 unfold jY
 repeat first|exact aU|exact br|refine bA ?_ ?_|refine bg ?_ (fun _=>?_)|refine bf ?_ (fun _=>?_)|refine bi ?_ (fun _=>?_)|refine bz (fun _=>?_)
theorem C6 (day_1:Int)(x:Int×Int):tv day_1 x=jY day_1 (tv day_1) x:=bI (yM day_1) x
noncomputable def ke (day_1:Int)(u5:Int×Int)(self:(Int×Int)→Option (Date⊕(Int×Int)))(x6:Int×Int):Option (Date⊕(Int×Int)):=
 (yH u5.2 x6.2).bind fun r7=>bif (decide (x6.1≥r7)) then ((yH u5.2 x6.2).bind fun r8=>self ((an (x6.1 - r8)),(an (x6.2+1)))) else (some (.inr (x6.1,x6.2)))
noncomputable def sh (day_1:Int)(u5:Int×Int):(Int×Int)→Option (Date⊕(Int×Int)):=ay (ke day_1 u5)
theorem xK (day_1:Int)(u5:Int×Int):∀a,Fin1 fun f=>ke day_1 u5 f a:=by
 intro a
 unfold ke
 repeat first|exact aU|exact br|refine bA ?_ ?_|refine bg ?_ (fun _=>?_)|refine bf ?_ (fun _=>?_)|refine bi ?_ (fun _=>?_)|refine bz (fun _=>?_)
theorem C7 (day_1:Int)(u5:Int×Int)(x:Int×Int):sh day_1 u5 x=ke day_1 u5 (sh day_1 u5) x:=bI (xK day_1 u5) x
noncomputable def CU (day_1:Int):Option Date:=
 bd (ρ:=Date) (tv day_1 (day_1,2000)) fun u5:Int×Int=>bd (ρ:=Date) (sh day_1 u5 (u5.1,1)) fun u9:Int×Int=>some (Date.mk u5.2 u9.2 (an (u9.1+1)))
noncomputable def Ff (day_1:Int):Option ac:=
 (CU day_1).bind fun r2=>(rn r2.Year 4).bind fun r3=>(aC r3 ([45]:ac)).bind fun s4=>(rn r2.Month 2).bind fun r5=>(aC s4 r5).bind fun s6=>(aC s6 ([45]:ac)).bind fun s7=>(rn r2.Day 2).bind fun r8=>(aC s7 r8).bind fun s9=>some s9
noncomputable def ul (slf_Ffk:Condition→Option ac)(c_1:Condition):Option ac:=
 bif (c_1.Op==2) then (some c_1.Name) else (bif (c_1.Op==3) then ((Ff c_1.Day).bind fun r2=>(aC ([102,114,111,109,32]:ac) r2).bind fun s3=>some s3) else (bif (c_1.Op==4) then ((aP c_1.Parts 0).bind fun e4=>(slf_Ffk e4).bind fun r5=>(aC ([110,111,116,32]:ac) r5).bind fun s6=>some s6) else (bif (c_1.Op==5) then ((aP c_1.Parts 0).bind fun e7=>(slf_Ffk e7).bind fun r8=>(aC ([40]:ac) r8).bind fun s9=>(aC s9 ([32,97,110,100,32]:ac)).bind fun s10=>(aP c_1.Parts 1).bind fun e11=>(slf_Ffk e11).bind fun r12=>(aC s10 r12).bind fun s13=>(aC s13 ([41]:ac)).bind fun s14=>some s14) else (bif (c_1.Op==6) then ((aP c_1.Parts 0).bind fun e15=>(slf_Ffk e15).bind fun r16=>(aC ([40]:ac) r16).bind fun s17=>(aC s17 ([32,111,114,32]:ac)).bind fun s18=>(aP c_1.Parts 1).bind fun e19=>(slf_Ffk e19).bind fun r20=>(aC s18 r20).bind fun s21=>(aC s21 ([41]:ac)).bind fun s22=>some s22) else (some ([116,114,117,101]:ac))))))
noncomputable def gp (slf_Ffk:Condition→Option ac)(x:Condition):Option ac:=ul slf_Ffk x
noncomputable def MG (c_1:Condition):Option ac:=ay gp c_1
theorem PX:∀x,Fin1 fun slf_Ffk=>gp slf_Ffk x:=by
 intro x
 unfold gp ul
 repeat first|exact aU|exact br|refine bA ?_ ?_|refine bg ?_ (fun _=>?_)|refine bf ?_ (fun _=>?_)|refine bi ?_ (fun _=>?_)|refine bz (fun _=>?_)
theorem Rp (c_1:Condition):MG c_1=ul (ay gp) c_1:=bI PX c_1
noncomputable def E9 (c_1:Contract)(x_2:Clause):Option ac:=
 (aC x_2.Id ([58,32]:ac)).bind fun s3=>(aP c_1.Parties x_2.Party).bind fun e4=>(aC s3 e4).bind fun s5=>(aP c_1.Parties x_2.Other).bind fun e6=>bd (ρ:=ac) (bif (x_2.Kind==1) then ((aC ([32,109,117,115,116,32]:ac) x_2.Action).bind fun s15=>(aC s15 ([32,102,111,114,32]:ac)).bind fun s16=>(aC s16 e6).bind fun s17=>(aC s5 s17).bind fun s18=>bR (ρ:=ac) (bif (decide (x_2.Amount>0)) then ((Fi x_2.Amount).bind fun r24=>(aC ([32,112,97,121,105,110,103,32]:ac) r24).bind fun s25=>(aC s18 s25).bind fun s26=>some (.inr s26)) else (some (.inr s18))) fun u19:ac=>(FA x_2.Within).bind fun r20=>(aC ([32,119,105,116,104,105,110,32]:ac) r20).bind fun s21=>(aC s21 ([32,100,97,121,115]:ac)).bind fun s22=>(aC u19 s22).bind fun s23=>some (.inr s23)) else (bR (ρ:=ac) (bif (x_2.Kind==2) then ((aC ([32,109,117,115,116,32,110,111,116,32]:ac) x_2.Action).bind fun s28=>(aC s28 ([32,97,103,97,105,110,115,116,32]:ac)).bind fun s29=>(aC s29 e6).bind fun s30=>(aC s5 s30).bind fun s31=>some (.inr s31)) else (bR (ρ:=ac) (bif (x_2.Kind==3) then ((aC ([32,109,97,121,32]:ac) x_2.Action).bind fun s33=>(aC s33 ([32,102,111,114,32]:ac)).bind fun s34=>(aC s34 e6).bind fun s35=>(aC s5 s35).bind fun s36=>some (.inr s36)) else (bR (ρ:=ac) (bif (x_2.Kind==4) then ((aC ([32,99,97,110,32]:ac) x_2.Action).bind fun s38=>(aC s38 ([32,116,111,119,97,114,100,32]:ac)).bind fun s39=>(aC s39 e6).bind fun s40=>(aC s5 s40).bind fun s41=>some (.inr s41)) else (some (.inr s5))) fun u37:ac=>some (.inr u37))) fun u32:ac=>some (.inr u32))) fun u27:ac=>some (.inr u27))) fun u7:ac=>(MG x_2.When).bind fun r8=>(aC ([32,119,104,101,110,32]:ac) r8).bind fun s9=>(aC u7 s9).bind fun s10=>bif (x_2.Repair==([]:ac)) then (some s10) else (bif (x_2.Kind==4) then ((aC s10 ([32,116,104,101,110,32]:ac)).bind fun s11=>(aC s11 x_2.Repair).bind fun s12=>some s12) else ((aC s10 ([32,101,108,115,101,32]:ac)).bind fun s13=>(aC s13 x_2.Repair).bind fun s14=>some s14))
noncomputable def Fu (c_1:Contract)(i_2:Int):Option (ac×Bool):=
 (FC c_1).bind fun r3=>bd (ρ:=ac×Bool) (bif (!r3) then (some (.inr true)) else ((lc i_2 0 (an ((len c_1.Clauses) - 1))).bind fun r7=>some (.inr (!r7)))) fun u4:Bool=>bif u4 then (some (([]:ac),false)) else ((aP c_1.Clauses i_2).bind fun e5=>(E9 c_1 e5).bind fun r6=>some (r6,true))
noncomputable def kq (a_1:List ac)(b_2:List ac)(self:Int→Option (Bool⊕Unit))(x3:Int):Option (Bool⊕Unit):=
 bif (decide (x3<(len a_1))) then ((aP a_1 x3).bind fun e4=>(aP b_2 x3).bind fun e5=>bif (!(e4==e5)) then (some (.inl false)) else (self (an (x3+1)))) else (some (.inr ()))
noncomputable def qa (a_1:List ac)(b_2:List ac): Int→Option (Bool⊕Unit):=ay (kq a_1 b_2)
theorem vg (a_1:List ac)(b_2:List ac): ∀a,Fin1 fun f=>kq a_1 b_2 f a:=by
 intro a
 unfold kq
 repeat first|exact aU|exact br|refine bA ?_ ?_|refine bg ?_ (fun _=>?_)|refine bf ?_ (fun _=>?_)|refine bi ?_ (fun _=>?_)|refine bz (fun _=>?_)
theorem I0 (a_1:List ac)(b_2:List ac)(x:Int):qa a_1 b_2 x=kq a_1 b_2 (qa a_1 b_2) x:=bI (vg a_1 b_2) x
noncomputable def xm (a_1:List ac)(b_2:List ac):Option Bool:=
 bif ((len a_1) != (len b_2)) then (some false) else (bd (ρ:=Bool) (qa a_1 b_2 0) fun u6:Unit=>some true)
noncomputable def iK (slf_Ffbb:(Condition×Condition)→Option Bool)(a_1:List Condition)(b_2:List Condition)(self:Int→Option (Bool⊕Unit))(x3:Int):Option (Bool⊕Unit):=
 bif (decide (x3<(len a_1))) then ((aP a_1 x3).bind fun e4=>(aP b_2 x3).bind fun e5=>(slf_Ffbb (e4,e5)).bind fun r6=>bif (!r6) then (some (.inl false)) else (self (an (x3+1)))) else (some (.inr ()))
noncomputable def ne (slf_Ffbb:(Condition×Condition)→Option Bool)(a_1:List Condition)(b_2:List Condition): Int→Option (Bool⊕Unit):=ay (iK slf_Ffbb a_1 b_2)
theorem uJ (slf_Ffbb:(Condition×Condition)→Option Bool)(a_1:List Condition)(b_2:List Condition): ∀a,Fin1 fun f=>iK slf_Ffbb a_1 b_2 f a:=by
 intro a
 unfold iK
 repeat first|exact aU|exact br|refine bA ?_ ?_|refine bg ?_ (fun _=>?_)|refine bf ?_ (fun _=>?_)|refine bi ?_ (fun _=>?_)|refine bz (fun _=>?_)
theorem IA (slf_Ffbb:(Condition×Condition)→Option Bool)(a_1:List Condition)(b_2:List Condition)(x:Int):ne slf_Ffbb a_1 b_2 x=iK slf_Ffbb a_1 b_2 (ne slf_Ffbb a_1 b_2) x:=bI (uJ slf_Ffbb a_1 b_2) x
noncomputable def rE (slf_Ffbb:(Condition×Condition)→Option Bool)(a_1:List Condition)(b_2:List Condition):Option Bool:=
 bif ((len a_1) != (len b_2)) then (some false) else (bd (ρ:=Bool) (ne slf_Ffbb a_1 b_2 0) fun u7:Unit=>some true)
noncomputable def pH (slf_Ffbb:(Condition×Condition)→Option Bool)(a_1:Condition)(b_2:Condition):Option Bool:=
 bif (a_1.Op != b_2.Op) then (some false) else (bif (!(a_1.Name==b_2.Name)) then (some false) else (bif (a_1.Day != b_2.Day) then (some false) else ((rE slf_Ffbb a_1.Parts b_2.Parts).bind fun r3=>bif (!r3) then (some false) else (some true))))
noncomputable def mn (slf_Ffbb:(Condition×Condition)→Option Bool)(x:Condition×Condition):Option Bool:=pH slf_Ffbb x.1 x.2
noncomputable def xf (a_1:Condition)(b_2:Condition):Option Bool:=ay mn (a_1,b_2)
theorem NW:∀x,Fin1 fun slf_Ffbb=>mn slf_Ffbb x:=by
 intro x
 unfold mn pH
 repeat first|exact aU|exact br|exact il|exact kg|exact gj|exact iJ|exact gO|exact gP|refine bA ?_ ?_|refine bg ?_ (fun _=>?_)|refine bf ?_ (fun _=>?_)|refine bi ?_ (fun _=>?_)|refine bz (fun _=>?_)|refine oh (fun _=>?_) | unfold rE | unfold ne | unfold iK
theorem QE (a_1:Condition)(b_2:Condition):xf a_1 b_2=pH (ay mn) a_1 b_2:=bI NW (a_1,b_2)
noncomputable def CS (a_1:Clause)(b_2:Clause):Option Bool:=
 bif (!(a_1.Id==b_2.Id)) then (some false) else (bif (a_1.Kind != b_2.Kind) then (some false) else (bif (a_1.Party != b_2.Party) then (some false) else (bif (!(a_1.Action==b_2.Action)) then (some false) else (bif (a_1.Other != b_2.Other) then (some false) else (bif (a_1.Amount != b_2.Amount) then (some false) else ((xf a_1.When b_2.When).bind fun r3=>bif (!r3) then (some false) else (bif (a_1.Within != b_2.Within) then (some false) else (bif (!(a_1.Repair==b_2.Repair)) then (some false) else (some true)))))))))
noncomputable def kA (a_1:List Clause)(b_2:List Clause)(self:Int→Option (Bool⊕Unit))(x3:Int):Option (Bool⊕Unit):=
 bif (decide (x3<(len a_1))) then ((aP a_1 x3).bind fun e4=>(aP b_2 x3).bind fun e5=>(CS e4 e5).bind fun r6=>bif (!r6) then (some (.inl false)) else (self (an (x3+1)))) else (some (.inr ()))
noncomputable def pD (a_1:List Clause)(b_2:List Clause): Int→Option (Bool⊕Unit):=ay (kA a_1 b_2)
theorem vi (a_1:List Clause)(b_2:List Clause): ∀a,Fin1 fun f=>kA a_1 b_2 f a:=by
 intro a
 unfold kA
 repeat first|exact aU|exact br|refine bA ?_ ?_|refine bg ?_ (fun _=>?_)|refine bf ?_ (fun _=>?_)|refine bi ?_ (fun _=>?_)|refine bz (fun _=>?_)
theorem H8 (a_1:List Clause)(b_2:List Clause)(x:Int):pD a_1 b_2 x=kA a_1 b_2 (pD a_1 b_2) x:=bI (vi a_1 b_2) x
noncomputable def vZ (a_1:List Clause)(b_2:List Clause):Option Bool:=
 bif ((len a_1) != (len b_2)) then (some false) else (bd (ρ:=Bool) (pD a_1 b_2 0) fun u7:Unit=>some true)
noncomputable def wj (a_1:Contract)(b_2:Contract):Option Bool:=
 (xm a_1.Parties b_2.Parties).bind fun r3=>bif (!r3) then (some false) else ((vZ a_1.Clauses b_2.Clauses).bind fun r4=>bif (!r4) then (some false) else (some true))
noncomputable def cZ (aC_1:Contract)(aI_2:Int):Option Bool:=
 (xi aC_1 1048576).bind fun r3=>bif (decide (r3<0)) then (some true) else ((rh aC_1).bind fun r4=>(wY r4 aI_2).bind fun r5=>(rh aC_1).bind fun r6=>(Fu r6 aI_2).bind fun r7=>cJ (bif (!(r7.1==r5.1)) then true else (!(r7.2==r5.2))) fun u8:Bool=>bif u8 then (some false) else ((rh aC_1).bind fun r9=>(wj r6 r9).bind fun r10=>bif (!r10) then (some false) else (some true)))
end Go.Ln
