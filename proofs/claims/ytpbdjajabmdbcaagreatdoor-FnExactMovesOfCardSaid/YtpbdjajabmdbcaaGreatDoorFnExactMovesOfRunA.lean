/-
  The walks.
-/
import Derived.Test.YtpbdjajabmdbcaaGreatDoorFnExactMovesOfFun
import Derived.Test.YtpbdjajabmdbcaaGreatDoorChecked
set_option maxHeartbeats 4000000
set_option linter.unusedVariables false
set_option linter.unusedSimpArgs false
set_option maxRecDepth 100000
namespace Go.Ln
open Go Go.Proofs
noncomputable abbrev cJ:=Checked.mixed Tryz.checked
abbrev cD:=Go.Ln.Ground
abbrev ct (G:cD):=gf Tryz.prog G
noncomputable abbrev cI:=S2 Tryz.prog
def CD:((List ae)×Int)→List V:=cA (jX str) (oA I)
def CE (r:Int):V×List V:=(I r,[])
noncomputable def An :=bA [false,false] CD CE fun x=>Am x.1 x.2
theorem YX {a_1:List ae}{aD:Int}{r}(h:Am a_1 aD=some r):An.F (CD (a_1,aD))=some (CE r):=aV (aY (ek bT) (aW bF)) h
noncomputable def Qs :=aQ Tryz.f26
noncomputable def Ja :=cI []
def Qr (x:(List ae)×Int)(r:Int):St→Prop:=QF Ja Tryz.f26 [false,false] (CD x) (CE r)
theorem LF (a_1:List ae)(aD:Int):cf Ja 0 (Qr (a_1,aD)) (cL (cL (cR (cL (cR (cR (cR Qs))))))) 0 (tp a_1 aD) (fun u=>(sT 28 [(1,I u)] [] 1)) fun x3=>(sT 28 [(0,.isl false (a_1.map str)),(1,I x3.1),(5,I x3.2)] [] 1):=eu (yJ a_1 aD) fun {Q K} hK self ih x3 y h hr hn=>by
 unfold na at h
 refine cq 5 [12,13] [I x3.2,.isl false (a_1.map str)] 33 ?_
 refine oq 49 (I (len a_1)) rfl (cg rfl rfl rfl (du rfl)) ?_
 refine cq 2 [15] [B (decide (x3.2<(len a_1)))] 65 ?_
 refine sq h ?_ ?_<;>intro h
 ·refine aq 1 ?_
  refine cq 7 [18,19,20] [I x3.1,.isl false (a_1.map str),I x3.2] 113 ?_
  obtain⟨e4,he4,h⟩:=bS h
  refine oq 129 (.iptr (str e4) 0) rfl (ah rfl rfl rfl (cp rfl rfl rfl rfl he4)) ?_
  refine cq 10 [1,26] [I (ac (x3.1 - (len e4))),B (decide ((ac (x3.1 - (len e4)))<0))] 225 ?_
  refine sq h ?_ ?_<;>intro h
  ·refine cq 4 [4] [I (-1)] 241 ?_
   exact bR rfl (hr _ (al h) _ (qp [I (-1)]))
  ·refine aq 1 ?_
   refine cq 6 [5] [I (ac (x3.2+1))] 273 ?_
   refine dm ?_
   exact rf [0,1,5] [] (ih _ _ h hr hn :)
 ·refine aq 1 ?_
  exact rf [1] [] (hn _ (al h) :) (hk:=hK)
theorem T1 (a_1:List ae)(aD:Int)(r:Int)(h:Am a_1 aD=some r):bN Ja Tryz.f26 [false,false] 0 (CD (a_1,aD)) (CE r):=by
 show Run _ _ (Qr (a_1,aD) r) [.code Qs] _
 refine rI 28 [(0,.isl false (a_1.map str)),(1,I aD)] [] 1 ?_
 unfold Am at h
 refine cq 8 [6,7] [I aD,.isl false (a_1.map str)] 49 ?_
 refine oq 65 (I (len a_1)) rfl (cg rfl rfl rfl (du rfl)) ?_
 refine cq 9 [1,11] [I (ac (aD - (len a_1))),B (decide ((ac (aD - (len a_1)))<0))] 129 ?_
 refine sq h ?_ ?_<;>intro h
 ·refine cq 4 [4] [I (-1)] 145 ?_
  obtain rfl:=sI h
  exact rP [I (-1)]
 ·refine aq 1 ?_
  refine cq 6 [5] [I (0)] 145 ?_
  obtain⟨y5,hy5,hy51,hy52⟩:=bJ h
  refine bO rfl ?_
  refine rf [0,1,5] [] (LF a_1 aD rfl ((ac (aD - (len a_1))),0) _ hy5 (fun r' e st hq=>by rw[hy51 r' e] at hq;exact hq) fun u5 hu=>?_)
  replace h:=hy52 u5 hu
  refine cq 5 [4] [I u5] 33 ?_
  obtain rfl:=sI h
  exact rP [I u5]
theorem Qt {G:cD}:ct G 26 An:=gT 2 0 bP cJ Tryz.func26 (fun a r h=>T1 a.1 a.2 r h)
def vH:(Condition×Int)→List V:=cA bB (oA I)
def vI (r:Int):V×List V:=(I r,[])
noncomputable def rx (bq:(Condition×Int)→Option Int):Ent:=bA [false,false] vH vI bq
theorem M5 (bq:(Condition×Int)→Option Int){x}{r}(h:bq x=some r):(rx bq).F (vH x)=some (vI r):=aV (aY dH (aW bF)) h
def Cz:((List Condition)×Int)→List V:=cA (jX aF) (oA I)
def CA (r:Int):V×List V:=(I r,[])
noncomputable def Aj (bq:(Condition×Int)→Option Int):Ent:=bA [false,false] Cz CA fun x=>vJ bq x.1 x.2
theorem YT (bq:(Condition×Int)→Option Int){a_1:List Condition}{aD:Int}{r}(h:vJ bq a_1 aD=some r):(Aj bq).F (Cz (a_1,aD))=some (CA r):=aV (aY (ek fH) (aW bF)) h
noncomputable def Qn :=aQ Tryz.f105
noncomputable def I9 (bq:(Condition×Int)→Option Int):Env:=cI [(82,(rx bq))]
def Qm (bq:(Condition×Int)→Option Int)(x:(List Condition)×Int)(r:Int):St→Prop:=QF (I9 bq) Tryz.f105 [false,false] (Cz x) (CA r)
theorem LE (bq:(Condition×Int)→Option Int)(a_1:List Condition)(aD:Int):cf (I9 bq) 0 (Qm bq (a_1,aD)) (cL (cL (cR (cL (cR (cR (cR Qn))))))) 0 (qm bq a_1 aD) (fun u=>(sT 27 [(1,I u)] [] 1)) fun x3=>(sT 27 [(0,.isl false (a_1.map aF)),(1,I x3.1),(5,I x3.2)] [] 1):=eu (yI bq a_1 aD) fun {Q K} hK self ih x3 y h hr hn=>by
 unfold kV at h
 refine cq 5 [12,13] [I x3.2,.isl false (a_1.map aF)] 33 ?_
 refine oq 49 (I (len a_1)) rfl (cg rfl rfl rfl (du rfl)) ?_
 refine cq 2 [15] [B (decide (x3.2<(len a_1)))] 65 ?_
 refine sq h ?_ ?_<;>intro h
 ·refine aq 1 ?_
  refine cq 6 [18,19] [.isl false (a_1.map aF),I x3.2] 97 ?_
  obtain⟨e4,he4,h⟩:=bS h
  refine oq 113 (.iptr (bB e4) 0) rfl (ah rfl rfl rfl (cp rfl rfl (dC e4) rfl he4)) ?_
  refine cq 2 [21,22] [bB e4,I x3.1] 145 ?_
  obtain⟨r5,hr5,h⟩:=bS h
  refine oq 161 (I r5) rfl (bC rfl rfl (bW rfl rfl rfl (ba (bl rfl) (ba (bl rfl) cS)) (M5 bq hr5) (.inr rfl) dE rfl rfl rfl)) ?_
  refine cq 7 [1,25] [I r5,B (decide (r5<0))] 209 ?_
  refine sq h ?_ ?_<;>intro h
  ·refine cq 4 [4] [I (-1)] 225 ?_
   exact bR rfl (hr _ (al h) _ (qp [I (-1)]))
  ·refine aq 1 ?_
   refine cq 6 [5] [I (ac (x3.2+1))] 257 ?_
   refine dm ?_
   exact rf [0,1,5] [] (ih _ _ h hr hn :)
 ·refine aq 1 ?_
  exact rf [1] [] (hn _ (al h) :) (hk:=hK)
theorem TZ (bq:(Condition×Int)→Option Int)(a_1:List Condition)(aD:Int)(r:Int)(h:vJ bq a_1 aD=some r):bN (I9 bq) Tryz.f105 [false,false] 0 (Cz (a_1,aD)) (CA r):=by
 show Run _ _ (Qm bq (a_1,aD) r) [.code Qn] _
 refine rI 27 [(0,.isl false (a_1.map aF)),(1,I aD)] [] 1 ?_
 unfold vJ at h
 refine cq 8 [6,7] [I aD,.isl false (a_1.map aF)] 49 ?_
 refine oq 65 (I (len a_1)) rfl (cg rfl rfl rfl (du rfl)) ?_
 refine cq 9 [1,11] [I (ac (aD - (len a_1))),B (decide ((ac (aD - (len a_1)))<0))] 129 ?_
 refine sq h ?_ ?_<;>intro h
 ·refine cq 4 [4] [I (-1)] 145 ?_
  obtain rfl:=sI h
  exact rP [I (-1)]
 ·refine aq 1 ?_
  refine cq 6 [5] [I (0)] 145 ?_
  obtain⟨y6,hy6,hy61,hy62⟩:=bJ h
  refine bO rfl ?_
  refine rf [0,1,5] [] (LE bq a_1 aD rfl ((ac (aD - (len a_1))),0) _ hy6 (fun r' e st hq=>by rw[hy61 r' e] at hq;exact hq) fun u6 hu=>?_)
  replace h:=hy62 u6 hu
  refine cq 5 [4] [I u6] 33 ?_
  obtain rfl:=sI h
  exact rP [I u6]
theorem Qo {G:cD}(bq:(Condition×Int)→Option Int)(KA:ct G 82 (rx bq)):ct G 105 (Aj bq):=gT 2 0 (bb KA bP) cJ Tryz.func105 (fun a r h=>TZ bq a.1 a.2 r h)
noncomputable def Ai :=rx (aP pt)
theorem YQ {a_1:Condition}{aD:Int}{r}(h:vG a_1 aD=some r):Ai.F (vH (a_1,aD))=some (vI r):=M5 (aP pt) h
noncomputable def YS :=aQ Tryz.f82
noncomputable def Qk (bq:(Condition×Int)→Option Int):Env:=cI [(105,(Aj bq))]
def YR (bq:(Condition×Int)→Option Int)(x:Condition×Int)(r:Int):St→Prop:=QF (Qk bq) Tryz.f82 [false,false] (vH x) (vI r)
theorem TY (bq:(Condition×Int)→Option Int)(a_1:Condition)(aD:Int)(r:Int)(h:tn bq a_1 aD=some r):bN (Qk bq) Tryz.f82 [false,false] 0 (vH (a_1,aD)) (vI r):=by
 show Run _ _ (YR bq (a_1,aD) r) [.code YS] _
 refine rI 19 [(0,bB a_1),(1,I aD)] [] 1 ?_
 unfold tn at h
 refine ck 20 [1,2,11] [] [1] [] [I (ac (aD - (len a_1.Name))),.hp 1 0 [] 4 0 0,B (decide ((ac (aD - (len a_1.Name)))<0))] [some ⟨0,4,[bB a_1]⟩] 161 (by kernel_rfl) ?_
 refine sq h ?_ ?_<;>intro h
 ·refine cq 4 [4] [I (-1)] 177 ?_
  obtain rfl:=sI h
  exact rP [I (-1)]
 ·refine aq 1 ?_
  refine cq 5 [13,14] [.isl false (a_1.Parts.map aF),I (ac (aD - (len a_1.Name)))] 209 ?_
  obtain⟨r3,hr3,h⟩:=bS h
  refine oq 225 (I r3) rfl (bC rfl rfl (bW rfl rfl rfl (ba (bl rfl) (ba (bl rfl) cS)) (YT bq hr3) (.inr rfl) dE rfl rfl rfl)) ?_
  refine cq 8 [1,17] [I r3,B (decide (r3<0))] 273 ?_
  refine sq h ?_ ?_<;>intro h
  ·refine cq 4 [4] [I (-1)] 289 ?_
   obtain rfl:=sI h
   exact rP [I (-1)]
  ·refine aq 1 ?_
   refine cq 5 [4] [I r3] 305 ?_
   obtain rfl:=sI h
   exact rP [I r3]
theorem Ql {G:cD}:ct G 82 Ai:=jt fun bq KA=>gT 2 0 (bb (Qo bq KA) bP) cJ Tryz.func82 (fun a r h=>TY bq a.1 a.2 r h)
def Cu:(Clause×Int)→List V:=cA aA (oA I)
def Cw (r:Int):V×List V:=(I r,[])
noncomputable def Ae :=bA [false,false] Cu Cw fun x=>ut x.1 x.2
theorem YM {a_1:Clause}{aD:Int}{r}(h:ut a_1 aD=some r):Ae.F (Cu (a_1,aD))=some (Cw r):=aV (aY eG (aW bF)) h
noncomputable def YO :=aQ Tryz.f54
noncomputable def Qf :=cI [(82,Ai)]
def YN (x:Clause×Int)(r:Int):St→Prop:=QF Qf Tryz.f54 [false,false] (Cu x) (Cw r)
theorem TV (a_1:Clause)(aD:Int)(r:Int)(h:ut a_1 aD=some r):bN Qf Tryz.f54 [false,false] 0 (Cu (a_1,aD)) (Cw r):=by
 show Run _ _ (YN (a_1,aD) r) [.code YO] _
 refine rI 33 [(0,aA a_1),(1,I aD)] [] 1 ?_
 unfold ut at h
 refine ck 20 [1,2,11] [] [1] [] [I (ac (aD - (len a_1.Id))),.hp 1 0 [] 12 0 0,B (decide ((ac (aD - (len a_1.Id)))<0))] [some ⟨0,12,[aA a_1]⟩] 161 (by kernel_rfl) ?_
 refine sq h ?_ ?_<;>intro h
 ·refine cq 4 [4] [I (-1)] 177 ?_
  obtain rfl:=sI h
  exact rP [I (-1)]
 ·refine aq 1 ?_
  refine cq 15 [1,18] [I (ac ((ac (aD - (len a_1.Id))) - (len a_1.Action))),B (decide ((ac ((ac (aD - (len a_1.Id))) - (len a_1.Action)))<0))] 289 ?_
  refine sq h ?_ ?_<;>intro h
  ·refine cq 4 [4] [I (-1)] 305 ?_
   obtain rfl:=sI h
   exact rP [I (-1)]
  ·refine aq 1 ?_
   refine cq 5 [20,21] [bB a_1.When,I (ac ((ac (aD - (len a_1.Id))) - (len a_1.Action)))] 337 ?_
   obtain⟨r3,hr3,h⟩:=bS h
   refine oq 353 (I r3) rfl (cP (YQ hr3)) ?_
   refine cq 8 [1,24] [I r3,B (decide (r3<0))] 401 ?_
   refine sq h ?_ ?_<;>intro h
   ·refine cq 4 [4] [I (-1)] 417 ?_
    obtain rfl:=sI h
    exact rP [I (-1)]
   ·refine aq 1 ?_
    refine cq 15 [1,31] [I (ac (r3 - (len a_1.Repair))),B (decide ((ac (r3 - (len a_1.Repair)))<0))] 529 ?_
    refine sq h ?_ ?_<;>intro h
    ·refine cq 4 [4] [I (-1)] 545 ?_
     obtain rfl:=sI h
     exact rP [I (-1)]
    ·refine aq 1 ?_
     refine cq 5 [4] [I (ac (r3 - (len a_1.Repair)))] 561 ?_
     obtain rfl:=sI h
     exact rP [I (ac (r3 - (len a_1.Repair)))]
theorem Qg {G:cD}:ct G 54 Ae:=gT 2 0 (bb Ql bP) cJ Tryz.func54 (fun a r h=>TV a.1 a.2 r h)
def Cx:((List Clause)×Int)→List V:=cA (jX aA) (oA I)
def Cy (r:Int):V×List V:=(I r,[])
noncomputable def Ah :=bA [false,false] Cx Cy fun x=>Af x.1 x.2
theorem YP {a_1:List Clause}{aD:Int}{r}(h:Af a_1 aD=some r):Ah.F (Cx (a_1,aD))=some (Cy r):=aV (aY (ek eG) (aW bF)) h
noncomputable def Qi :=aQ Tryz.f27
noncomputable def I8 :=cI [(54,Ae)]
def Qh (x:(List Clause)×Int)(r:Int):St→Prop:=QF I8 Tryz.f27 [false,false] (Cx x) (Cy r)
theorem LD (a_1:List Clause)(aD:Int):cf I8 0 (Qh (a_1,aD)) (cL (cL (cR (cL (cR (cR (cR Qi))))))) 0 (tk a_1 aD) (fun u=>(sT 27 [(1,I u)] [] 1)) fun x3=>(sT 27 [(0,.isl false (a_1.map aA)),(1,I x3.1),(5,I x3.2)] [] 1):=eu (yH a_1 aD) fun {Q K} hK self ih x3 y h hr hn=>by
 unfold mZ at h
 refine cq 5 [12,13] [I x3.2,.isl false (a_1.map aA)] 33 ?_
 refine oq 49 (I (len a_1)) rfl (cg rfl rfl rfl (du rfl)) ?_
 refine cq 2 [15] [B (decide (x3.2<(len a_1)))] 65 ?_
 refine sq h ?_ ?_<;>intro h
 ·refine aq 1 ?_
  refine cq 6 [18,19] [.isl false (a_1.map aA),I x3.2] 97 ?_
  obtain⟨e4,he4,h⟩:=bS h
  refine oq 113 (.iptr (aA e4) 0) rfl (ah rfl rfl rfl (cp rfl rfl rfl rfl he4)) ?_
  refine cq 2 [21,22] [aA e4,I x3.1] 145 ?_
  obtain⟨r5,hr5,h⟩:=bS h
  refine oq 161 (I r5) rfl (cP (YM hr5)) ?_
  refine cq 7 [1,25] [I r5,B (decide (r5<0))] 209 ?_
  refine sq h ?_ ?_<;>intro h
  ·refine cq 4 [4] [I (-1)] 225 ?_
   exact bR rfl (hr _ (al h) _ (qp [I (-1)]))
  ·refine aq 1 ?_
   refine cq 6 [5] [I (ac (x3.2+1))] 257 ?_
   refine dm ?_
   exact rf [0,1,5] [] (ih _ _ h hr hn :)
 ·refine aq 1 ?_
  exact rf [1] [] (hn _ (al h) :) (hk:=hK)
theorem TW (a_1:List Clause)(aD:Int)(r:Int)(h:Af a_1 aD=some r):bN I8 Tryz.f27 [false,false] 0 (Cx (a_1,aD)) (Cy r):=by
 show Run _ _ (Qh (a_1,aD) r) [.code Qi] _
 refine rI 27 [(0,.isl false (a_1.map aA)),(1,I aD)] [] 1 ?_
 unfold Af at h
 refine cq 8 [6,7] [I aD,.isl false (a_1.map aA)] 49 ?_
 refine oq 65 (I (len a_1)) rfl (cg rfl rfl rfl (du rfl)) ?_
 refine cq 9 [1,11] [I (ac (aD - (len a_1))),B (decide ((ac (aD - (len a_1)))<0))] 129 ?_
 refine sq h ?_ ?_<;>intro h
 ·refine cq 4 [4] [I (-1)] 145 ?_
  obtain rfl:=sI h
  exact rP [I (-1)]
 ·refine aq 1 ?_
  refine cq 6 [5] [I (0)] 145 ?_
  obtain⟨y6,hy6,hy61,hy62⟩:=bJ h
  refine bO rfl ?_
  refine rf [0,1,5] [] (LD a_1 aD rfl ((ac (aD - (len a_1))),0) _ hy6 (fun r' e st hq=>by rw[hy61 r' e] at hq;exact hq) fun u6 hu=>?_)
  replace h:=hy62 u6 hu
  refine cq 5 [4] [I u6] 33 ?_
  obtain rfl:=sI h
  exact rP [I u6]
theorem Qj {G:cD}:ct G 27 Ah:=gT 2 0 (bb Qg bP) cJ Tryz.func27 (fun a r h=>TW a.1 a.2 r h)
def CB:(Contract×Int)→List V:=cA bn (oA I)
def CC (r:Int):V×List V:=(I r,[])
noncomputable def Al :=bA [false,false] CB CC fun x=>Ak x.1 x.2
theorem YU {a_1:Contract}{aD:Int}{r}(h:Ak a_1 aD=some r):Al.F (CB (a_1,aD))=some (CC r):=aV (aY co (aW bF)) h
noncomputable def YW :=aQ Tryz.f6
noncomputable def Qp :=cI [(26,An),(27,Ah)]
def YV (x:Contract×Int)(r:Int):St→Prop:=QF Qp Tryz.f6 [false,false] (CB x) (CC r)
theorem T0 (a_1:Contract)(aD:Int)(r:Int)(h:Ak a_1 aD=some r):bN Qp Tryz.f6 [false,false] 0 (CB (a_1,aD)) (CC r):=by
 show Run _ _ (YV (a_1,aD) r) [.code YW] _
 refine rI 18 [(0,bn a_1),(1,I aD)] [] 1 ?_
 unfold Ak at h
 refine ck 10 [2,6,7] [] [1] [] [.hp 1 0 [] 2 0 0,.isl false (a_1.Parties.map str),I aD] [some ⟨0,2,[bn a_1]⟩] 81 (by kernel_rfl) ?_
 obtain⟨r3,hr3,h⟩:=bS h
 refine oq 97 (I r3) rfl (cP (YX hr3)) ?_
 refine cq 8 [1,10] [I r3,B (decide (r3<0))] 145 ?_
 refine sq h ?_ ?_<;>intro h
 ·refine cq 4 [4] [I (-1)] 161 ?_
  obtain rfl:=sI h
  exact rP [I (-1)]
 ·refine aq 1 ?_
  refine cq 5 [12,13] [.isl false (a_1.Clauses.map aA),I r3] 193 ?_
  obtain⟨r4,hr4,h⟩:=bS h
  refine oq 209 (I r4) rfl (cP (YP hr4)) ?_
  refine cq 8 [1,16] [I r4,B (decide (r4<0))] 257 ?_
  refine sq h ?_ ?_<;>intro h
  ·refine cq 4 [4] [I (-1)] 273 ?_
   obtain rfl:=sI h
   exact rP [I (-1)]
  ·refine aq 1 ?_
   refine cq 5 [4] [I r4] 289 ?_
   obtain rfl:=sI h
   exact rP [I r4]
theorem Qq {G:cD}:ct G 6 Al:=gT 2 0 (bb Qt (bb Qj bP)) cJ Tryz.func6 (fun a r h=>T0 a.1 a.2 r h)
def CN:(List ae)→List V:=oA (jX str)
def CO (r:(List ae)):V×List V:=(.usl 1 (r.map str),[])
noncomputable def Az :=bA [false] CN CO fun x=>Ay x
theorem Y8 {a_1:List ae}{r}(h:Ay a_1=some r):Az.F (CN a_1)=some (CO r):=aV (aW (ek bT)) h
noncomputable def QI :=aQ Tryz.f32
noncomputable def Jd :=cI []
def QH (x:(List ae))(r:(List ae)):St→Prop:=QF Jd Tryz.f32 [false] (CN x) (CO r)
theorem LI (a_1:List ae):cf Jd 0 (QH a_1) (cL (cL (cR (cL (cR (cR QI)))))) 0 (tu a_1) (fun u=>(sT 22 [(3,.hs 1 0 [] 1 0 (u.map str).length)] [⟨0,1,u.map str⟩] 2)) fun x3=>(sT 22 [(0,.isl false (a_1.map str)),(3,.hs 1 0 [] 1 0 (x3.2.map str).length),(4,I x3.1)] [⟨0,1,x3.2.map str⟩] 2):=eu (yM a_1) fun {Q K} hK self ih x3 y h hr hn=>by
 unfold ne at h
 refine cq 5 [8,9] [I x3.1,.isl false (a_1.map str)] 34 ?_
 refine oq 50 (I (len a_1)) rfl (cg rfl rfl rfl (du rfl)) ?_
 refine cq 2 [11] [B (decide (x3.1<(len a_1)))] 66 ?_
 refine sq h ?_ ?_<;>intro h
 ·refine aq 1 ?_
  refine cq 7 [14,15,16,17] [.hs 1 0 [] 1 0 (x3.2.map str).length,I x3.1,.isl false (a_1.map str),I x3.1] 130 ?_
  obtain⟨e4,he4,h⟩:=bS h
  refine oq 146 (.iptr (str e4) 0) rfl (ah rfl rfl rfl (cp rfl rfl rfl rfl he4)) ?_
  refine cq 1 [19] [str e4] 162 ?_
  obtain⟨e5,he5,h⟩:=bS h
  refine oq 178 (.hp 1 0 [] 1 (0+Int.toNat x3.1) 0) rfl (ah rfl rfl rfl (aL (f:=str) (xs:=x3.2) rfl rfl rfl he5)) ?_
  refine o0 194 rfl rfl (dl rfl rfl (ch (path:=[]) (pl:=true) (e':=str e4) (es2':=(aK x3.2 x3.1 e4).map str) rfl (ap rfl) rfl rfl rfl aw (aB (f:=str) (xs:=x3.2) he5) rfl rfl rfl (eK (f:=str) (xs:=x3.2) (y:=e4)) cl 0 rfl)) ?_
  try rw[←ep (f:=str) (xs:=x3.2) (i:=x3.1) (z:=e4)]
  refine cq 7 [4] [I (ac (x3.1+1))] 242 ?_
  refine dm ?_
  exact rf [0,3,4] [1] (ih _ _ h hr hn :)
 ·refine aq 1 ?_
  exact rf [3] [1] (hn _ (al h) :) (hk:=hK)
theorem T9 (a_1:List ae)(r:(List ae))(h:Ay a_1=some r):bN Jd Tryz.f32 [false] 0 (CN a_1) (CO r):=by
 show Run _ _ (QH a_1 r) [.code QI] _
 refine rI 22 [(0,.isl false (a_1.map str))] [] 1 ?_
 unfold Ay at h
 refine cq 7 [5] [.isl false (a_1.map str)] 33 ?_
 refine oq 49 (I (len a_1)) rfl (cg rfl rfl rfl (du rfl)) ?_
 obtain⟨m2,hm2,h⟩:=bS h
 refine oq 65 (.hs 49 0 [] 1 0 (m2.map str).length) rfl (pg rfl rfl (S5 (f:=str) rfl rfl rfl (by decide) hm2 rfl)) ?_
 refine cq 8 [3,4] [.hs 49 0 [] 1 0 (m2.map str).length,I (0)] 97 ?_
 obtain⟨y6,hy6,hy61,hy62⟩:=bJ h
 refine bO rfl ?_
 refine rf [0,3,4] [49] (LI a_1 rfl (0,m2) _ hy6 (fun r' e st hq=>by rw[hy61 r' e] at hq;exact hq) fun u6 hu=>?_)
 replace h:=hy62 u6 hu
 refine cq 5 [2] [.hs 1 0 [] 1 0 (u6.map str).length] 34 ?_
 obtain rfl:=sI h
 exact bR rfl ⟨_,fin (vs:=[.hs 1 0 [] 1 0 (u6.map str).length]) rfl (d6 (gt rfl (eg rfl rfl)) cX) rfl (bH d4),dX⟩
theorem QJ {G:cD}:ct G 32 Az:=gT 1 0 bP cJ Tryz.func32 (fun a r h=>T9 a r h)
def vL:Condition→List V:=oA bB
def vM (r:Condition):V×List V:=(pN r,[])
noncomputable def ry (br:Condition→Option Condition):Ent:=bA [false] vL vM br
theorem M6 (br:Condition→Option Condition){x}{r}(h:br x=some r):(ry br).F (vL x)=some (vM r):=aV (aW dH) h
def CJ:(List Condition)→List V:=oA (jX aF)
def CK (r:(List Condition)):V×List V:=(.usl 4 (r.map ai),[])
noncomputable def Av (br:Condition→Option Condition):Ent:=bA [false] CJ CK fun x=>vN br x
theorem Y5 (br:Condition→Option Condition){a_1:List Condition}{r}(h:vN br a_1=some r):(Av br).F (CJ a_1)=some (CK r):=aV (aW (ek fH)) h
noncomputable def QC :=aQ Tryz.f109
noncomputable def Jc (br:Condition→Option Condition):Env:=cI [(91,(ry br))]
def QB (br:Condition→Option Condition)(x:(List Condition))(r:(List Condition)):St→Prop:=QF (Jc br) Tryz.f109 [false] (CJ x) (CK r)
theorem LH (br:Condition→Option Condition)(a_1:List Condition):cf (Jc br) 0 (QB br a_1) (cL (cL (cR (cL (cR (cR QC)))))) 0 (qn br a_1) (fun u=>(sT 23 [(3,.hs 1 0 [] 4 0 (u.map ai).length)] [⟨0,4,u.map ai⟩] 2)) fun x3=>(sT 23 [(0,.isl false (a_1.map aF)),(3,.hs 1 0 [] 4 0 (x3.2.map ai).length),(4,I x3.1)] [⟨0,4,x3.2.map ai⟩] 2):=eu (yL br a_1) fun {Q K} hK self ih x3 y h hr hn=>by
 unfold kW at h
 refine cq 5 [8,9] [I x3.1,.isl false (a_1.map aF)] 34 ?_
 refine oq 50 (I (len a_1)) rfl (cg rfl rfl rfl (du rfl)) ?_
 refine cq 2 [11] [B (decide (x3.1<(len a_1)))] 66 ?_
 refine sq h ?_ ?_<;>intro h
 ·refine aq 1 ?_
  refine cq 7 [14,15,16,17] [.hs 1 0 [] 4 0 (x3.2.map ai).length,I x3.1,.isl false (a_1.map aF),I x3.1] 130 ?_
  obtain⟨e4,he4,h⟩:=bS h
  refine oq 146 (.iptr (bB e4) 0) rfl (ah rfl rfl rfl (cp rfl rfl (dC e4) rfl he4)) ?_
  refine cq 1 [19] [bB e4] 162 ?_
  obtain⟨r5,hr5,h⟩:=bS h
  refine oq 178 (.agg [I r5.Op,str r5.Name,I r5.Day,.hs 162 0 [] 4 0 (r5.Parts.map ai).length]) rfl (bC rfl rfl (bW rfl rfl rfl (ba (bl rfl) cS) (M6 br hr5) (.inr rfl) dE rfl rfl rfl)) ?_
  obtain⟨e6,he6,h⟩:=bS h
  refine oq 194 (.hp 1 0 [] 4 (0+Int.toNat x3.1) 0) rfl (ah rfl rfl rfl (aL (f:=ai) (xs:=x3.2) rfl rfl rfl he6)) ?_
  refine o0 210 rfl rfl (dl rfl rfl (ch (path:=[]) (pl:=false) (e':=pN r5) (es2':=(aK x3.2 x3.1 r5).map ai) rfl (qO (dM (dZ rfl) (dM (dZ rfl) (dM (dZ rfl) (dM (eg rfl rfl) qP))))) rfl rfl rfl aw (lF (f:=ai) (xs:=x3.2) (dD e6) he6) rfl rfl rfl (BU (f:=ai) (xs:=x3.2) (dD r5)) cl 1 rfl)) ?_
  try rw[←ep (f:=ai) (xs:=x3.2) (i:=x3.1) (z:=r5)]
  refine cq 7 [4] [I (ac (x3.1+1))] 258 ?_
  refine dm ?_
  exact rf [0,3,4] [1] (ih _ _ h hr hn :)
 ·refine aq 1 ?_
  exact rf [3] [1] (hn _ (al h) :) (hk:=hK)
theorem T7 (br:Condition→Option Condition)(a_1:List Condition)(r:(List Condition))(h:vN br a_1=some r):bN (Jc br) Tryz.f109 [false] 0 (CJ a_1) (CK r):=by
 show Run _ _ (QB br a_1 r) [.code QC] _
 refine rI 23 [(0,.isl false (a_1.map aF))] [] 1 ?_
 unfold vN at h
 refine cq 7 [5] [.isl false (a_1.map aF)] 33 ?_
 refine oq 49 (I (len a_1)) rfl (cg rfl rfl rfl (du rfl)) ?_
 obtain⟨m2,hm2,h⟩:=bS h
 refine oq 65 (.hs 49 0 [] 4 0 (m2.map ai).length) rfl (pg rfl rfl (S4 (g:=ai) (f:=fun _=>(.agg [I (0),str ([]),I (0),.isl true []]:V)) (z0:=(Condition.mk 0 [] 0 [])) rfl rfl rfl (by decide) hm2 rfl)) ?_
 refine gJ 49 (m2.map ai) rfl rfl (Kr hm2 ((dD _).symm▸iH (aN (.refl _) (aN (.refl _) (aN (.refl _) (aN (.nil _) fp)))))) ?_
 refine cq 8 [3,4] [.hs 49 0 [] 4 0 (m2.map ai).length,I (0)] 97 ?_
 obtain⟨y7,hy7,hy71,hy72⟩:=bJ h
 refine bO rfl ?_
 refine rf [0,3,4] [49] (LH br a_1 rfl (0,m2) _ hy7 (fun r' e st hq=>by rw[hy71 r' e] at hq;exact hq) fun u7 hu=>?_)
 replace h:=hy72 u7 hu
 refine cq 5 [2] [.hs 1 0 [] 4 0 (u7.map ai).length] 34 ?_
 obtain rfl:=sI h
 exact bR rfl ⟨_,fin (vs:=[.hs 1 0 [] 4 0 (u7.map ai).length]) rfl (d6 (gt rfl (eg rfl rfl)) cX) rfl (bH d4),dX⟩
theorem QD {G:cD}(br:Condition→Option Condition)(KB:ct G 91 (ry br)):ct G 109 (Av br):=gT 1 0 (bb KB bP) cJ Tryz.func109 (fun a r h=>T7 br a r h)
noncomputable def Au :=ry (aP pw)
theorem Y2 {a_1:Condition}{r}(h:Ar a_1=some r):Au.F (vL a_1)=some (vM r):=M6 (aP pw) h
noncomputable def Y4 :=aQ Tryz.f91
noncomputable def Qz (br:Condition→Option Condition):Env:=cI [(109,(Av br))]
def Y3 (br:Condition→Option Condition)(x:Condition)(r:Condition):St→Prop:=QF (Qz br) Tryz.f91 [false] (vL x) (vM r)
theorem T6 (br:Condition→Option Condition)(a_1:Condition)(r:Condition)(h:tt br a_1=some r):bN (Qz br) Tryz.f91 [false] 0 (vL a_1) (vM r):=by
 show Run _ _ (Y3 br a_1 r) [.code Y4] _
 refine rI 18 [(0,bB a_1)] [] 1 ?_
 unfold tt at h
 refine ck 4 [1,2] [] [1,17] [] [.hp 1 0 [] 4 0 0,.hp 17 0 [] 4 0 0] [some ⟨0,4,[bB a_1]⟩,some ⟨0,4,[.agg [I (0),str ([]),I (0),.isl true []]]⟩] 33 (by kernel_rfl) ?_
 refine gJ 17 [.agg [I (0),str ([]),I (0),.usl 4 (([]).map ai)]] rfl rfl (aN (iH (aN (.refl _) (aN (.refl _) (aN (.refl _) (aN (.nil _) fp))))) fp) ?_
 refine ck 4 [3] [] [33] [] [.hp 33 0 [] 4 0 0] [some ⟨0,4,[.agg [I (0),str ([]),I (0),.isl true []]]⟩] 49 (by kernel_rfl) ?_
 refine gJ 33 [.agg [I (0),str ([]),I (0),.usl 4 (([]).map ai)]] rfl rfl (aN (iH (aN (.refl _) (aN (.refl _) (aN (.refl _) (aN (.nil _) fp))))) fp) ?_
 refine ck 26 [14] [] [33] [] [.isl false (a_1.Parts.map aF)] [some ⟨1,4,[.agg [I a_1.Op,str a_1.Name,I a_1.Day,.usl 4 (([]).map ai)]]⟩] 273 (by kernel_rfl) ?_
 obtain⟨r2,hr2,h⟩:=bS h
 refine oq 289 (.hs 273 0 [] 4 0 (r2.map ai).length) rfl (bC rfl rfl (bW rfl rfl rfl (ba (bl rfl) cS) (Y5 br hr2) (.inr rfl) dE rfl rfl rfl)) ?_
 refine cq 1 [16] [.hp 33 0 [] 4 0 3] 305 ?_
 refine o0 321 rfl rfl (dl rfl rfl (ch (path:=[]) (pl:=false) (e':=.agg [I a_1.Op,str a_1.Name,I a_1.Day,.usl 4 (r2.map ai)]) (es2':=[.agg [I a_1.Op,str a_1.Name,I a_1.Day,.usl 4 (r2.map ai)]]) rfl (gt rfl (eg rfl rfl)) rfl rfl rfl aw rfl rfl rfl rfl rfl cl 2 rfl)) ?_
 refine cq 4 [17] [.agg [I a_1.Op,str a_1.Name,I a_1.Day,.hs 33 2 [(0,3)] 4 0 (r2.map ai).length]] 337 ?_
 refine o0 353 rfl rfl (dl rfl rfl (ch (path:=[]) (pl:=false) (e':=.agg [I a_1.Op,str a_1.Name,I a_1.Day,.usl 4 (r2.map ai)]) (es2':=[.agg [I a_1.Op,str a_1.Name,I a_1.Day,.usl 4 (r2.map ai)]]) rfl (qO (dM (dZ rfl) (dM (dZ rfl) (dM (dZ rfl) (dM (nP (path:=[(0,3)]) rfl rfl (iO rfl rfl aw) rfl (sY (path:=[]) (i:=0) (k:=3) (e':=.agg [I a_1.Op,str a_1.Name,I a_1.Day,.dead]) (es2':=[.agg [I a_1.Op,str a_1.Name,I a_1.Day,.dead]]) aw rfl rfl rfl cl)) qP))))) rfl rfl rfl aw rfl rfl rfl rfl rfl cl 2 rfl)) ?_
 refine aq 1 ?_
 obtain rfl:=sI h
 exact bR rfl ⟨_,fin (vs:=[.agg [I a_1.Op,str a_1.Name,I a_1.Day,.hs 17 2 [(0,3)] 4 0 (r2.map ai).length]]) (V6 (GK rfl rfl rfl) V7) (d6 (qO (dM (dZ rfl) (dM (dZ rfl) (dM (dZ rfl) (dM (nP (path:=[(0,3)]) rfl rfl (iO rfl rfl aw) rfl (sY (path:=[]) (i:=0) (k:=3) (e':=.agg [I a_1.Op,str a_1.Name,I a_1.Day,.dead]) (es2':=[.agg [I a_1.Op,str a_1.Name,I a_1.Day,.dead]]) aw rfl rfl rfl cl)) qP))))) cX) rfl (bH d4),dX⟩
theorem QA {G:cD}:ct G 91 Au:=jt fun br KB=>gT 1 0 (bb (QD br KB) bP) cJ Tryz.func91 (fun a r h=>T6 br a r h)
def CF:Clause→List V:=oA aA
def CG (r:Clause):V×List V:=(un r,[])
noncomputable def Ao :=bA [false] CF CG fun x=>vK x
theorem YY {a_1:Clause}{r}(h:vK a_1=some r):Ao.F (CF a_1)=some (CG r):=aV (aW eG) h
noncomputable def Y0 :=aQ Tryz.f61
noncomputable def Qu :=cI [(91,Au)]
def YZ (x:Clause)(r:Clause):St→Prop:=QF Qu Tryz.f61 [false] (CF x) (CG r)
theorem T3 (a_1:Clause)(r:Clause)(h:vK a_1=some r):bN Qu Tryz.f61 [false] 0 (CF a_1) (CG r):=by
 show Run _ _ (YZ a_1 r) [.code Y0] _
 refine rI 33 [(0,aA a_1)] [] 1 ?_
 unfold vK at h
 refine ck 4 [1,2] [] [1,17] [] [.hp 1 0 [] 12 0 0,.hp 17 0 [] 12 0 0] [some ⟨0,12,[aA a_1]⟩,some ⟨0,12,[.agg [str ([]),I (0),I (0),str ([]),I (0),I (0),I (0),str ([]),I (0),.isl true [],I (0),str ([])]]⟩] 33 (by kernel_rfl) ?_
 refine gJ 17 [.agg [str ([]),I (0),I (0),str ([]),I (0),I (0),I (0),str ([]),I (0),.usl 4 (([]).map ai),I (0),str ([])]] rfl rfl (aN (iH (aN (.refl _) (aN (.refl _) (aN (.refl _) (aN (.refl _) (aN (.refl _) (aN (.refl _) (aN (.refl _) (aN (.refl _) (aN (.refl _) (aN (.nil _) (aN (.refl _) (aN (.refl _) fp))))))))))))) fp) ?_
 refine ck 4 [3] [] [33] [] [.hp 33 0 [] 12 0 0] [some ⟨0,12,[.agg [str ([]),I (0),I (0),str ([]),I (0),I (0),I (0),str ([]),I (0),.isl true [],I (0),str ([])]]⟩] 49 (by kernel_rfl) ?_
 refine gJ 33 [.agg [str ([]),I (0),I (0),str ([]),I (0),I (0),I (0),str ([]),I (0),.usl 4 (([]).map ai),I (0),str ([])]] rfl rfl (aN (iH (aN (.refl _) (aN (.refl _) (aN (.refl _) (aN (.refl _) (aN (.refl _) (aN (.refl _) (aN (.refl _) (aN (.refl _) (aN (.refl _) (aN (.nil _) (aN (.refl _) (aN (.refl _) fp))))))))))))) fp) ?_
 refine ck 47 [23] [] [33] [] [bB a_1.When] [some ⟨1,12,[.agg [str a_1.Id,I a_1.Kind,I a_1.Party,str a_1.Action,I a_1.Other,I a_1.Amount,I (0),str ([]),I (0),.usl 4 (([]).map ai),I (0),str ([])]]⟩] 465 (by kernel_rfl) ?_
 obtain⟨r2,hr2,h⟩:=bS h
 refine oq 481 (.agg [I r2.Op,str r2.Name,I r2.Day,.hs 465 0 [] 4 0 (r2.Parts.map ai).length]) rfl (cP (Y2 hr2)) ?_
 refine cq 1 [25] [.hp 33 0 [] 12 0 6] 497 ?_
 refine o0 513 rfl rfl (dl rfl rfl (ch (path:=[]) (pl:=false) (e':=.agg [str a_1.Id,I a_1.Kind,I a_1.Party,str a_1.Action,I a_1.Other,I a_1.Amount,I r2.Op,str r2.Name,I r2.Day,.usl 4 (r2.Parts.map ai),I (0),str ([])]) (es2':=[.agg [str a_1.Id,I a_1.Kind,I a_1.Party,str a_1.Action,I a_1.Other,I a_1.Amount,I r2.Op,str r2.Name,I r2.Day,.usl 4 (r2.Parts.map ai),I (0),str ([])]]) rfl (qO (dM (dZ rfl) (dM (dZ rfl) (dM (dZ rfl) (dM (eg rfl rfl) qP))))) rfl rfl rfl aw rfl rfl rfl rfl rfl cl 2 rfl)) ?_
 refine ck 18 [32] [] [33] [] [.agg [str a_1.Id,I a_1.Kind,I a_1.Party,str a_1.Action,I a_1.Other,I a_1.Amount,I r2.Op,str r2.Name,I r2.Day,.hs 33 2 [(0,9)] 4 0 (r2.Parts.map ai).length,I a_1.Within,str a_1.Repair]] [some ⟨2,12,[.agg [str a_1.Id,I a_1.Kind,I a_1.Party,str a_1.Action,I a_1.Other,I a_1.Amount,I r2.Op,str r2.Name,I r2.Day,.usl 4 (r2.Parts.map ai),I a_1.Within,str a_1.Repair]]⟩] 657 (by kernel_rfl) ?_
 refine o0 673 rfl rfl (dl rfl rfl (ch (path:=[]) (pl:=false) (e':=.agg [str a_1.Id,I a_1.Kind,I a_1.Party,str a_1.Action,I a_1.Other,I a_1.Amount,I r2.Op,str r2.Name,I r2.Day,.usl 4 (r2.Parts.map ai),I a_1.Within,str a_1.Repair]) (es2':=[.agg [str a_1.Id,I a_1.Kind,I a_1.Party,str a_1.Action,I a_1.Other,I a_1.Amount,I r2.Op,str r2.Name,I r2.Day,.usl 4 (r2.Parts.map ai),I a_1.Within,str a_1.Repair]]) rfl (qO (dM (dZ rfl) (dM (dZ rfl) (dM (dZ rfl) (dM (dZ rfl) (dM (dZ rfl) (dM (dZ rfl) (dM (dZ rfl) (dM (dZ rfl) (dM (dZ rfl) (dM (nP (path:=[(0,9)]) rfl rfl (iO rfl rfl aw) rfl (sY (path:=[]) (i:=0) (k:=9) (e':=.agg [str a_1.Id,I a_1.Kind,I a_1.Party,str a_1.Action,I a_1.Other,I a_1.Amount,I r2.Op,str r2.Name,I r2.Day,.dead,I a_1.Within,str a_1.Repair]) (es2':=[.agg [str a_1.Id,I a_1.Kind,I a_1.Party,str a_1.Action,I a_1.Other,I a_1.Amount,I r2.Op,str r2.Name,I r2.Day,.dead,I a_1.Within,str a_1.Repair]]) aw rfl rfl rfl cl)) (dM (dZ rfl) (dM (dZ rfl) qP))))))))))))) rfl rfl rfl aw rfl rfl rfl rfl rfl cl 2 rfl)) ?_
 refine aq 1 ?_
 obtain rfl:=sI h
 exact bR rfl ⟨_,fin (vs:=[.agg [str a_1.Id,I a_1.Kind,I a_1.Party,str a_1.Action,I a_1.Other,I a_1.Amount,I r2.Op,str r2.Name,I r2.Day,.hs 17 2 [(0,9)] 4 0 (r2.Parts.map ai).length,I a_1.Within,str a_1.Repair]]) (V6 (GK rfl rfl rfl) V7) (d6 (qO (dM (dZ rfl) (dM (dZ rfl) (dM (dZ rfl) (dM (dZ rfl) (dM (dZ rfl) (dM (dZ rfl) (dM (dZ rfl) (dM (dZ rfl) (dM (dZ rfl) (dM (nP (path:=[(0,9)]) rfl rfl (iO rfl rfl aw) rfl (sY (path:=[]) (i:=0) (k:=9) (e':=.agg [str a_1.Id,I a_1.Kind,I a_1.Party,str a_1.Action,I a_1.Other,I a_1.Amount,I r2.Op,str r2.Name,I r2.Day,.dead,I a_1.Within,str a_1.Repair]) (es2':=[.agg [str a_1.Id,I a_1.Kind,I a_1.Party,str a_1.Action,I a_1.Other,I a_1.Amount,I r2.Op,str r2.Name,I r2.Day,.dead,I a_1.Within,str a_1.Repair]]) aw rfl rfl rfl cl)) (dM (dZ rfl) (dM (dZ rfl) qP))))))))))))) cX) rfl (bH d4),dX⟩
theorem Qv {G:cD}:ct G 61 Ao:=gT 1 0 (bb QA bP) cJ Tryz.func61 (fun a r h=>T3 a r h)
def CH:(List Clause)→List V:=oA (jX aA)
def CI (r:(List Clause)):V×List V:=(.usl 12 (r.map aj),[])
noncomputable def Aq :=bA [false] CH CI fun x=>Ap x
theorem Y1 {a_1:List Clause}{r}(h:Ap a_1=some r):Aq.F (CH a_1)=some (CI r):=aV (aW (ek eG)) h
noncomputable def Qx :=aQ Tryz.f33
noncomputable def Jb :=cI [(61,Ao)]
def Qw (x:(List Clause))(r:(List Clause)):St→Prop:=QF Jb Tryz.f33 [false] (CH x) (CI r)
theorem LG (a_1:List Clause):cf Jb 0 (Qw a_1) (cL (cL (cR (cL (cR (cR Qx)))))) 0 (tq a_1) (fun u=>(sT 23 [(3,.hs 1 0 [] 12 0 (u.map aj).length)] [⟨0,12,u.map aj⟩] 2)) fun x3=>(sT 23 [(0,.isl false (a_1.map aA)),(3,.hs 1 0 [] 12 0 (x3.2.map aj).length),(4,I x3.1)] [⟨0,12,x3.2.map aj⟩] 2):=eu (yK a_1) fun {Q K} hK self ih x3 y h hr hn=>by
 unfold nc at h
 refine cq 5 [8,9] [I x3.1,.isl false (a_1.map aA)] 34 ?_
 refine oq 50 (I (len a_1)) rfl (cg rfl rfl rfl (du rfl)) ?_
 refine cq 2 [11] [B (decide (x3.1<(len a_1)))] 66 ?_
 refine sq h ?_ ?_<;>intro h
 ·refine aq 1 ?_
  refine cq 7 [14,15,16,17] [.hs 1 0 [] 12 0 (x3.2.map aj).length,I x3.1,.isl false (a_1.map aA),I x3.1] 130 ?_
  obtain⟨e4,he4,h⟩:=bS h
  refine oq 146 (.iptr (aA e4) 0) rfl (ah rfl rfl rfl (cp rfl rfl rfl rfl he4)) ?_
  refine cq 1 [19] [aA e4] 162 ?_
  obtain⟨r5,hr5,h⟩:=bS h
  refine oq 178 (.agg [str r5.Id,I r5.Kind,I r5.Party,str r5.Action,I r5.Other,I r5.Amount,I r5.When.Op,str r5.When.Name,I r5.When.Day,.hs 162 0 [] 4 0 (r5.When.Parts.map ai).length,I r5.Within,str r5.Repair]) rfl (cP (YY hr5)) ?_
  obtain⟨e6,he6,h⟩:=bS h
  refine oq 194 (.hp 1 0 [] 12 (0+Int.toNat x3.1) 0) rfl (ah rfl rfl rfl (aL (f:=aj) (xs:=x3.2) rfl rfl rfl he6)) ?_
  refine o0 210 rfl rfl (dl rfl rfl (ch (path:=[]) (pl:=false) (e':=un r5) (es2':=(aK x3.2 x3.1 r5).map aj) rfl (qO (dM (dZ rfl) (dM (dZ rfl) (dM (dZ rfl) (dM (dZ rfl) (dM (dZ rfl) (dM (dZ rfl) (dM (dZ rfl) (dM (dZ rfl) (dM (dZ rfl) (dM (eg rfl rfl) (dM (dZ rfl) (dM (dZ rfl) qP))))))))))))) rfl rfl rfl aw (aB (f:=aj) (xs:=x3.2) he6) rfl rfl rfl (eK (f:=aj) (xs:=x3.2) (y:=r5)) cl 1 rfl)) ?_
  try rw[←ep (f:=aj) (xs:=x3.2) (i:=x3.1) (z:=r5)]
  refine cq 7 [4] [I (ac (x3.1+1))] 258 ?_
  refine dm ?_
  exact rf [0,3,4] [1] (ih _ _ h hr hn :)
 ·refine aq 1 ?_
  exact rf [3] [1] (hn _ (al h) :) (hk:=hK)
theorem T4 (a_1:List Clause)(r:(List Clause))(h:Ap a_1=some r):bN Jb Tryz.f33 [false] 0 (CH a_1) (CI r):=by
 show Run _ _ (Qw a_1 r) [.code Qx] _
 refine rI 23 [(0,.isl false (a_1.map aA))] [] 1 ?_
 unfold Ap at h
 refine cq 7 [5] [.isl false (a_1.map aA)] 33 ?_
 refine oq 49 (I (len a_1)) rfl (cg rfl rfl rfl (du rfl)) ?_
 obtain⟨m2,hm2,h⟩:=bS h
 refine oq 65 (.hs 49 0 [] 12 0 (m2.map aj).length) rfl (pg rfl rfl (S4 (g:=aj) (f:=fun _=>(.agg [str ([]),I (0),I (0),str ([]),I (0),I (0),I (0),str ([]),I (0),.isl true [],I (0),str ([])]:V)) (z0:=(Clause.mk [] 0 0 [] 0 0 (Condition.mk 0 [] 0 []) 0 [])) rfl rfl rfl (by decide) hm2 rfl)) ?_
 refine gJ 49 (m2.map aj) rfl rfl (Kr hm2 (iH (aN (.refl _) (aN (.refl _) (aN (.refl _) (aN (.refl _) (aN (.refl _) (aN (.refl _) (aN (.refl _) (aN (.refl _) (aN (.refl _) (aN (.nil _) (aN (.refl _) (aN (.refl _) fp)))))))))))))) ?_
 refine cq 8 [3,4] [.hs 49 0 [] 12 0 (m2.map aj).length,I (0)] 97 ?_
 obtain⟨y7,hy7,hy71,hy72⟩:=bJ h
 refine bO rfl ?_
 refine rf [0,3,4] [49] (LG a_1 rfl (0,m2) _ hy7 (fun r' e st hq=>by rw[hy71 r' e] at hq;exact hq) fun u7 hu=>?_)
 replace h:=hy72 u7 hu
 refine cq 5 [2] [.hs 1 0 [] 12 0 (u7.map aj).length] 34 ?_
 obtain rfl:=sI h
 exact bR rfl ⟨_,fin (vs:=[.hs 1 0 [] 12 0 (u7.map aj).length]) rfl (d6 (gt rfl (eg rfl rfl)) cX) rfl (bH d4),dX⟩
theorem Qy {G:cD}:ct G 33 Aq:=gT 1 0 (bb Qv bP) cJ Tryz.func33 (fun a r h=>T4 a r h)
def CL:Contract→List V:=oA bn
def CM (r:Contract):V×List V:=(ko r,[])
noncomputable def Aw :=bA [false] CL CM fun x=>sw x
theorem vO {a_1:Contract}{r}(h:sw a_1=some r):Aw.F (CL a_1)=some (CM r):=aV (aW co) h
noncomputable def Y7 :=aQ Tryz.f8
noncomputable def QE :=cI [(32,Az),(33,Aq)]
def Y6 (x:Contract)(r:Contract):St→Prop:=QF QE Tryz.f8 [false] (CL x) (CM r)
theorem T8 (a_1:Contract)(r:Contract)(h:sw a_1=some r):bN QE Tryz.f8 [false] 0 (CL a_1) (CM r):=by
 show Run _ _ (Y6 a_1 r) [.code Y7] _
 refine rI 13 [(0,bn a_1)] [] 1 ?_
 unfold sw at h
 refine ck 4 [1,2] [] [1,17] [] [.hp 1 0 [] 2 0 0,.hp 17 0 [] 2 0 0] [some ⟨0,2,[bn a_1]⟩,some ⟨0,2,[.agg [.isl true [],.isl true []]]⟩] 33 (by kernel_rfl) ?_
 refine gJ 17 [.agg [.usl 1 (([]).map str),.usl 12 (([]).map aj)]] rfl rfl (aN (iH (aN (.nil _) (aN (.nil _) fp))) fp) ?_
 refine ck 4 [3] [] [33] [] [.hp 33 0 [] 2 0 0] [some ⟨0,2,[.agg [.isl true [],.isl true []]]⟩] 49 (by kernel_rfl) ?_
 refine gJ 33 [.agg [.usl 1 (([]).map str),.usl 12 (([]).map aj)]] rfl rfl (aN (iH (aN (.nil _) (aN (.nil _) fp))) fp) ?_
 refine cq 5 [5] [.isl false (a_1.Parties.map str)] 81 ?_
 obtain⟨r2,hr2,h⟩:=bS h
 refine oq 97 (.hs 81 0 [] 1 0 (r2.map str).length) rfl (cP (Y8 hr2)) ?_
 refine cq 1 [7] [.hp 33 0 [] 2 0 0] 113 ?_
 refine o0 129 rfl rfl (dl rfl rfl (ch (path:=[]) (pl:=false) (e':=.agg [.usl 1 (r2.map str),.usl 12 (([]).map aj)]) (es2':=[.agg [.usl 1 (r2.map str),.usl 12 (([]).map aj)]]) rfl (gt rfl (eg rfl rfl)) rfl rfl rfl aw rfl rfl rfl rfl rfl cl 2 rfl)) ?_
 refine cq 5 [9] [.isl false (a_1.Clauses.map aA)] 161 ?_
 obtain⟨r3,hr3,h⟩:=bS h
 refine oq 177 (.hs 161 0 [] 12 0 (r3.map aj).length) rfl (cP (Y1 hr3)) ?_
 refine cq 1 [11] [.hp 33 0 [] 2 0 1] 193 ?_
 refine o0 209 rfl rfl (dl rfl rfl (ch (path:=[]) (pl:=false) (e':=.agg [.usl 1 (r2.map str),.usl 12 (r3.map aj)]) (es2':=[.agg [.usl 1 (r2.map str),.usl 12 (r3.map aj)]]) rfl (gt rfl (eg rfl rfl)) rfl rfl rfl aw rfl rfl rfl rfl rfl cl 3 rfl)) ?_
 refine cq 4 [12] [.agg [.hs 33 3 [(0,0)] 1 0 (r2.map str).length,.hs 33 3 [(0,1)] 12 0 (r3.map aj).length]] 225 ?_
 refine o0 241 rfl rfl (dl rfl rfl (ch (path:=[]) (pl:=false) (e':=.agg [.usl 1 (r2.map str),.usl 12 (r3.map aj)]) (es2':=[.agg [.usl 1 (r2.map str),.usl 12 (r3.map aj)]]) rfl (qO (dM (nP (path:=[(0,0)]) rfl rfl (iO rfl rfl aw) rfl (sY (path:=[]) (i:=0) (k:=0) (e':=.agg [.dead,.usl 12 (r3.map aj)]) (es2':=[.agg [.dead,.usl 12 (r3.map aj)]]) aw rfl rfl rfl cl)) (dM (nP (path:=[(0,1)]) rfl rfl (iO rfl rfl aw) rfl (sY (path:=[]) (i:=0) (k:=1) (e':=.agg [.dead,.dead]) (es2':=[.agg [.dead,.dead]]) aw rfl rfl rfl cl)) qP))) rfl rfl rfl aw rfl rfl rfl rfl rfl cl 2 rfl)) ?_
 refine aq 1 ?_
 obtain rfl:=sI h
 exact bR rfl ⟨_,fin (vs:=[.agg [.hs 17 2 [(0,0)] 1 0 (r2.map str).length,.hs 17 2 [(0,1)] 12 0 (r3.map aj).length]]) (V6 (GK rfl rfl rfl) V7) (d6 (qO (dM (nP (path:=[(0,0)]) rfl rfl (iO rfl rfl aw) rfl (sY (path:=[]) (i:=0) (k:=0) (e':=.agg [.dead,.usl 12 (r3.map aj)]) (es2':=[.agg [.dead,.usl 12 (r3.map aj)]]) aw rfl rfl rfl cl)) (dM (nP (path:=[(0,1)]) rfl rfl (iO rfl rfl aw) rfl (sY (path:=[]) (i:=0) (k:=1) (e':=.agg [.dead,.dead]) (es2':=[.agg [.dead,.dead]]) aw rfl rfl rfl cl)) qP))) cX) rfl (bH d4),dX⟩
theorem QG {G:cD}:ct G 8 Aw:=gT 1 0 (bb QJ (bb Qy bP)) cJ Tryz.func8 (fun a r h=>T8 a r h)
def pn:(Int×Int×Int)→List V:=cA I (cA I (oA I))
def po (r:Bool):V×List V:=(B r,[])
noncomputable def iD :=bA [false,false,false] pn po fun x=>fw x.1 x.2.1 x.2.2
theorem ia {x_1:Int}{a_2:Int}{b_3:Int}{r}(h:fw x_1 a_2 b_3=some r):iD.F (pn (x_1,a_2,b_3))=some (po r):=aV (aY bF (aY bF (aW bF))) h
noncomputable def zH :=aQ Tryz.f42
noncomputable def sX :=cI []
def zG (x:Int×Int×Int)(r:Bool):St→Prop:=QF sX Tryz.f42 [false,false,false] (pn x) (po r)
theorem HQ (x_1:Int)(a_2:Int)(b_3:Int)(r:Bool)(h:fw x_1 a_2 b_3=some r):bN sX Tryz.f42 [false,false,false] 0 (pn (x_1,a_2,b_3)) (po r):=by
 show Run _ _ (zG (x_1,a_2,b_3) r) [.code zH] _
 refine rI 15 [(0,I x_1),(1,I a_2),(2,I b_3)] [] 1 ?_
 unfold fw at h
 refine cq 10 [10] [B (decide (x_1≥a_2))] 81 ?_
 obtain⟨u4,hu4,h⟩:=lJ h
 have j4:Run sX 0 (zG (x_1,a_2,b_3) r) (.code (cR (cR zH))::[]) (sT 15 [(6,B u4)] [] 1):=by
  obtain rfl:=sI h
  exact rP [B u4]
 replace h:=hu4
 clear hu4
 refine sp 10 h rfl ?_ ?_<;>intro h
 ·refine cq 6 [6] [B (decide (x_1≤b_3))] 161 ?_
  subst h
  exact rf [6] [] (j4 :)
 ·refine cq 6 [6] [B false] 161 ?_
  subst h
  exact rf [6] [] (j4 :)
theorem jQ {G:cD}:ct G 42 iD:=gT 3 0 bP cJ Tryz.func42 (fun a r h=>HQ a.1 a.2.1 a.2.2 r h)
def Ec:Int→List V:=oA (V.int .u8)
def Ed (r:Bool):V×List V:=(B r,[])
noncomputable def Bj :=bA [false] Ec Ed fun x=>wo x
theorem ZQ {b_1:Int}{r}(h:wo b_1=some r):Bj.F (Ec b_1)=some (Ed r):=aV (aW (ro (k:=.u8))) h
noncomputable def wr :=aQ Tryz.f106
noncomputable def tJ :=cI []
def wq (x:Int)(r:Bool):St→Prop:=QF tJ Tryz.f106 [false] (Ec x) (Ed r)
theorem UQ (b_1:Int)(r:Bool)(h:wo b_1=some r):bN tJ Tryz.f106 [false] 0 (Ec b_1) (Ed r):=by
 show Run _ _ (wq b_1 r) [.code wr] _
 refine rI 17 [(0,.int .u8 b_1)] [] 1 ?_
 unfold wo at h
 refine cq 9 [5] [B (decide (b_1≥97))] 65 ?_
 obtain⟨u2,hu2,h⟩:=lJ h
 have j2:Run tJ 0 (wq b_1 r) (.code (cR (cR wr))::[]) (sT 17 [(2,B u2)] [] 1):=by
  obtain rfl:=sI h
  exact rP [B u2]
 replace h:=hu2
 clear hu2
 refine sp 5 h rfl ?_ ?_<;>intro h
 ·refine cq 4 [9] [B (decide (b_1≤122))] 129 ?_
  obtain⟨u3,hu3,h⟩:=lJ h
  have j3:Run tJ 0 (wq b_1 r) (.code (cR (cR wr))::[]) (sT 17 [(2,B u3)] [] 1):=by
   subst h
   exact rf [2] [] (j2 :)
  replace h:=hu3
  clear hu3
  refine sp 9 h rfl ?_ ?_<;>intro h
  ·refine cq 9 [2] [B true] 257 ?_
   subst h
   exact rf [2] [] (j3 :)
  ·refine cq 3 [12] [B (decide (b_1≥48))] 177 ?_
   obtain⟨u4,hu4,h⟩:=lJ h
   have j4:Run tJ 0 (wq b_1 r) (.code (cR (cR wr))::[]) (sT 17 [(2,B u4)] [] 1):=by
    subst h
    exact rf [2] [] (j3 :)
   replace h:=hu4
   clear hu4
   refine sp 12 h rfl ?_ ?_<;>intro h
   ·refine cq 6 [2] [B (decide (b_1≤57))] 257 ?_
    subst h
    exact rf [2] [] (j4 :)
   ·refine cq 6 [2] [B false] 257 ?_
    subst h
    exact rf [2] [] (j4 :)
 ·refine cq 7 [9,12] [B false,B (decide (b_1≥48))] 177 ?_
  obtain⟨u5,hu5,h⟩:=lJ h
  have j5:Run tJ 0 (wq b_1 r) (.code (cR (cR wr))::[]) (sT 17 [(2,B u5)] [] 1):=by
   subst h
   exact rf [2] [] (j2 :)
  replace h:=hu5
  clear hu5
  refine sp 12 h rfl ?_ ?_<;>intro h
  ·refine cq 6 [2] [B (decide (b_1≤57))] 257 ?_
   subst h
   exact rf [2] [] (j5 :)
  ·refine cq 6 [2] [B false] 257 ?_
   subst h
   exact rf [2] [] (j5 :)
theorem RL {G:cD}:ct G 106 Bj:=gT 1 0 bP cJ Tryz.func106 (fun a r h=>UQ a r h)
def D6:ae→List V:=oA str
def D7 (r:Bool):V×List V:=(B r,[])
noncomputable def qH :=bA [false] D6 D7 fun x=>sB x
theorem wg {s_1:ae}{r}(h:sB s_1=some r):qH.F (D6 s_1)=some (D7 r):=aV (aW bT) h
noncomputable def py :=aQ Tryz.f83
noncomputable abbrev ni :=cR (cR (cR (cR py)))
noncomputable abbrev nj :=cR (cL (cR (cL (cR (cR (cR py))))))
noncomputable def jD :=cI [(42,iD),(106,Bj)]
def iE (x:ae)(r:Bool):St→Prop:=QF jD Tryz.f83 [false] (D6 x) (D7 r)
theorem Mv (s_1:ae):cf jD 0 (iE s_1) (cL (cL (cR (cL (cR (cR py)))))) 0 (tF s_1) (fun u=>(sT 40 [(0,str s_1)] [] 1)) fun x4=>(sT 40 [(0,str s_1),(3,I x4)] [] 1):=eu (za s_1) fun {Q K} hK self ih x4 y h hr hn=>by
 unfold nk at h
 refine cq 8 [21] [B (decide (x4<(len s_1)))] 65 ?_
 refine sq h ?_ ?_<;>intro h
 ·refine aq 1 ?_
  refine cq 6 [24,25] [str s_1,I x4] 97 ?_
  obtain⟨c5,hc5,h⟩:=bS h
  refine oq 113 (.int .u8 (c5.toNat:Int)) rfl (l7 rfl rfl (qc rfl rfl hc5)) ?_
  obtain⟨r6,hr6,h⟩:=bS h
  refine oq 129 (B r6) rfl (cP (ZQ hr6)) ?_
  refine cq 2 [28] [B (!r6)] 145 ?_
  refine sq h ?_ ?_<;>intro h
  ·refine cq 4 [2] [B false] 161 ?_
   exact bR rfl (hr _ (al h) _ (qp [B false]))
  ·refine aq 1 ?_
   refine cq 6 [3] [I (ac (x4+1))] 193 ?_
   refine dm ?_
   exact rf [0,3] [] (ih _ _ h hr hn :)
 ·refine aq 1 ?_
  exact rf [0] [] (hn _ (al h) :) (hk:=hK)
theorem UL (s_1:ae)(r:Bool)(h:sB s_1=some r):bN jD Tryz.f83 [false] 0 (D6 s_1) (D7 r):=by
 show Run _ _ (iE s_1 r) [.code py] _
 refine rI 40 [(0,str s_1)] [] 1 ?_
 unfold sB at h
 refine cq 9 [5] [I (len s_1)] 49 ?_
 obtain⟨r2,hr2,h⟩:=bS h
 refine oq 65 (B r2) rfl (cP (ia hr2)) ?_
 refine cq 2 [8] [B (!r2)] 97 ?_
 obtain⟨y3,hy3,hy31,hy32⟩:=bJ h
 have j3:∀u3,y3=.inr u3→Run jD 0 (iE s_1 r) (.code (cR (cL (cR py)))::.code (cR (cR py))::[]) (sT 40 [(0,str s_1),(17,B u3)] [] 1):=by
  intro u3 hu
  replace h:=hy32 u3 hu
  refine sq h ?_ ?_<;>intro h
  ·refine cq 4 [2] [B false] 17 ?_
   obtain rfl:=sI h
   exact rP [B false]
  ·refine aq 1 ?_
   refine cq 6 [3] [I (0)] 17 ?_
   obtain⟨y7,hy7,hy71,hy72⟩:=bJ h
   refine bO rfl ?_
   refine rf [0,3] [] (Mv s_1 rfl 0 _ hy7 (fun r' e st hq=>by rw[hy71 r' e] at hq;exact hq) fun u7 hu=>?_)
   replace h:=hy72 u7 hu
   refine cq 12 [29,30] [str s_1,B (s_1==([116,114,117,101]:ae))] 49 ?_
   obtain⟨u8,hu8,h⟩:=lJ h
   have j8:Run jD 0 (iE s_1 r) (.code nj::.blk 2::.code ni::[]) (sT 40 [(30,B u8)] [] 1):=by
    refine sq h ?_ ?_<;>intro h
    ·refine cq 4 [2] [B false] 17 ?_
     obtain rfl:=sI h
     exact rP [B false]
    ·refine aq 1 ?_
     refine cq 5 [2] [B true] 17 ?_
     obtain rfl:=sI h
     exact rP [B true]
   replace h:=hu8
   clear hu8
   refine sk h rfl rfl ?_ ?_<;>intro h
   ·refine aq 1 ?_
    subst h
    exact rf [30] [] (j8 :)
   ·refine cq 5 [30] [B (s_1==([102,114,111,109]:ae))] 81 ?_
    obtain⟨u9,hu9,h⟩:=lJ h
    have j9:Run jD 0 (iE s_1 r) (.code nj::.blk 2::.code ni::[]) (sT 40 [(30,B u9)] [] 1):=by
     subst h
     exact rf [30] [] (j8 :)
    replace h:=hu9
    clear hu9
    refine sk h rfl rfl ?_ ?_<;>intro h
    ·refine aq 1 ?_
     subst h
     exact rf [30] [] (j9 :)
    ·refine cq 5 [30] [B (s_1==([110,111,116]:ae))] 113 ?_
     obtain⟨u10,hu10,h⟩:=lJ h
     have j10:Run jD 0 (iE s_1 r) (.code nj::.blk 2::.code ni::[]) (sT 40 [(30,B u10)] [] 1):=by
      subst h
      exact rf [30] [] (j9 :)
     replace h:=hu10
     clear hu10
     refine sk h rfl rfl ?_ ?_<;>intro h
     ·refine aq 1 ?_
      subst h
      exact rf [30] [] (j10 :)
     ·refine cq 5 [30] [B (s_1==([97,110,100]:ae))] 145 ?_
      obtain⟨u11,hu11,h⟩:=lJ h
      have j11:Run jD 0 (iE s_1 r) (.code nj::.blk 2::.code ni::[]) (sT 40 [(30,B u11)] [] 1):=by
       subst h
       exact rf [30] [] (j10 :)
      replace h:=hu11
      clear hu11
      refine sk h rfl rfl ?_ ?_<;>intro h
      ·refine aq 1 ?_
       subst h
       exact rf [30] [] (j11 :)
      ·refine cq 5 [30] [B (s_1==([111,114]:ae))] 177 ?_
       obtain⟨u12,hu12,h⟩:=lJ h
       have j12:Run jD 0 (iE s_1 r) (.code nj::.blk 2::.code ni::[]) (sT 40 [(30,B u12)] [] 1):=by
        subst h
        exact rf [30] [] (j11 :)
       replace h:=hu12
       clear hu12
       refine sk h rfl rfl ?_ ?_<;>intro h
       ·refine aq 1 ?_
        subst h
        exact rf [30] [] (j12 :)
       ·refine cq 5 [30] [B (s_1==([98,111,116,104]:ae))] 209 ?_
        obtain⟨u13,hu13,h⟩:=lJ h
        have j13:Run jD 0 (iE s_1 r) (.code nj::.blk 2::.code ni::[]) (sT 40 [(30,B u13)] [] 1):=by
         subst h
         exact rf [30] [] (j12 :)
        replace h:=hu13
        clear hu13
        refine sk h rfl rfl ?_ ?_<;>intro h
        ·refine aq 1 ?_
         subst h
         exact rf [30] [] (j13 :)
        ·refine cq 5 [30] [B (s_1==([101,105,116,104,101,114]:ae))] 241 ?_
         obtain⟨u14,hu14,h⟩:=lJ h
         have j14:Run jD 0 (iE s_1 r) (.code nj::.blk 2::.code ni::[]) (sT 40 [(30,B u14)] [] 1):=by
          subst h
          exact rf [30] [] (j13 :)
         replace h:=hu14
         clear hu14
         refine sk h rfl rfl ?_ ?_<;>intro h
         ·refine aq 1 ?_
          subst h
          exact rf [30] [] (j14 :)
         ·refine cq 5 [30] [B (s_1==([105,116]:ae))] 273 ?_
          obtain⟨u15,hu15,h⟩:=lJ h
          have j15:Run jD 0 (iE s_1 r) (.code nj::.blk 2::.code ni::[]) (sT 40 [(30,B u15)] [] 1):=by
           subst h
           exact rf [30] [] (j14 :)
          replace h:=hu15
          clear hu15
          refine sk h rfl rfl ?_ ?_<;>intro h
          ·refine aq 1 ?_
           subst h
           exact rf [30] [] (j15 :)
          ·refine cq 4 [30] [B (s_1==([105,110]:ae))] 305 ?_
           subst h
           exact rf [30] [] (j15 :)
 have r3:∀r',y3=.inl r'→∀st,iE s_1 r' st→(iE s_1 r) st:=fun r' e st hq=>by rw[hy31 r' e] at hq;exact hq
 replace h:=hy3
 refine sp 8 h rfl ?_ ?_<;>intro h
 ·refine cq 10 [17] [B true] 241 ?_
  exact rf [0,17] [] (j3 _ (al h) :)
 ·refine cq 1 [9] [str s_1] 113 ?_
  obtain⟨c16,hc16,h⟩:=bS h
  refine oy 129 (.int .u8 (c16.toNat:Int)) rfl (l7 rfl rfl (qc rfl rfl hc16)) ?_
  refine cq 3 [13] [B (decide ((c16.toNat:Int)<97))] 177 ?_
  obtain⟨y17,hy17,hy171,hy172⟩:=bL h
  have j17:∀u17,y17=.inr u17→Run jD 0 (iE s_1 r) (.code (cR (cL (cR py)))::.code (cR (cR py))::[]) (sT 40 [(0,str s_1),(17,B u17)] [] 1):=by
   intro u17 hu
   replace h:=hy172 u17 hu
   exact rf [0,17] [] (j3 _ (al h) :)
  have r17:∀r',y17=.inl r'→∀st,iE s_1 r' st→(iE s_1 r) st:=fun r' e st hq=>r3 r' (hy171 r' e) st hq
  replace h:=hy17
  refine sp 13 h rfl ?_ ?_<;>intro h
  ·refine cq 5 [17] [B true] 241 ?_
   exact rf [0,17] [] (j17 _ (al h) :)
  ·refine cq 1 [14] [str s_1] 193 ?_
   obtain⟨c18,hc18,h⟩:=bS h
   refine oy 209 (.int .u8 (c18.toNat:Int)) rfl (l7 rfl rfl (qc rfl rfl hc18)) ?_
   refine cq 3 [17] [B (decide ((c18.toNat:Int)>122))] 241 ?_
   exact rf [0,17] [] (j17 _ (al h) :)
theorem wh {G:cD}:ct G 83 qH:=gT 1 0 (bb jQ (bb RL bP)) cJ Tryz.func83 (fun a r h=>UL a r h)
def D4:((List ae)×ae)→List V:=cA (jX str) (oA str)
def D5 (r:Bool):V×List V:=(B r,[])
noncomputable def Bh :=bA [false,false] D4 D5 fun x=>Bg x.1 x.2
theorem RD {aI:List ae}{eW:ae}{r}(h:Bg aI eW=some r):Bh.F (D4 (aI,eW))=some (D5 r):=aV (aY (ek bT) (aW bT)) h
noncomputable def RF :=aQ Tryz.f84
noncomputable def JG :=cI []
def RE (x:(List ae)×ae)(r:Bool):St→Prop:=QF JG Tryz.f84 [false,false] (D4 x) (D5 r)
theorem Mu (aI:List ae)(eW:ae):cf JG 0 (RE (aI,eW)) (cL (cL (cR (cL (cR RF))))) 0 (tE aI eW) (fun u=>(sT 18 [] [] 1)) fun x3=>(sT 18 [(0,.isl false (aI.map str)),(1,str eW),(5,I x3)] [] 1):=eu (yZ aI eW) fun {Q K} hK self ih x3 y h hr hn=>by
 unfold ng at h
 refine cq 5 [6,7] [I x3,.isl false (aI.map str)] 33 ?_
 refine oq 49 (I (len aI)) rfl (cg rfl rfl rfl (du rfl)) ?_
 refine cq 2 [9] [B (decide (x3<(len aI)))] 65 ?_
 refine sq h ?_ ?_<;>intro h
 ·refine aq 1 ?_
  refine cq 6 [12,13] [.isl false (aI.map str),I x3] 97 ?_
  obtain⟨e4,he4,h⟩:=bS h
  refine oq 113 (.iptr (str e4) 0) rfl (ah rfl rfl rfl (cp rfl rfl rfl rfl he4)) ?_
  refine cq 4 [17] [B (e4==eW)] 161 ?_
  refine sq h ?_ ?_<;>intro h
  ·refine cq 4 [4] [B true] 177 ?_
   exact bR rfl (hr _ (al h) _ (qp [B true]))
  ·refine aq 1 ?_
   refine cq 6 [5] [I (ac (x3+1))] 209 ?_
   refine dm ?_
   exact rf [0,1,5] [] (ih _ _ h hr hn :)
 ·refine aq 1 ?_
  exact rf [] [] (hn _ (al h) :) (hk:=hK)
theorem UK (aI:List ae)(eW:ae)(r:Bool)(h:Bg aI eW=some r):bN JG Tryz.f84 [false,false] 0 (D4 (aI,eW)) (D5 r):=by
 show Run _ _ (RE (aI,eW) r) [.code RF] _
 refine rI 18 [(0,.isl false (aI.map str)),(1,str eW)] [] 1 ?_
 unfold Bg at h
 refine cq 10 [5] [I (0)] 33 ?_
 obtain⟨y5,hy5,hy51,hy52⟩:=bJ h
 refine bO rfl ?_
 refine rf [0,1,5] [] (Mu aI eW rfl 0 _ hy5 (fun r' e st hq=>by rw[hy51 r' e] at hq;exact hq) fun u5 hu=>?_)
 replace h:=hy52 u5 hu
 refine cq 4 [4] [B false] 17 ?_
 obtain rfl:=sI h
 exact rP [B false]
theorem RG {G:cD}:ct G 84 Bh:=gT 2 0 bP cJ Tryz.func84 (fun a r h=>UK a.1 a.2 r h)
def Er:Contract→List V:=oA bn
def Et (r:Bool):V×List V:=(B r,[])
noncomputable def Bq :=bA [false] Er Et fun x=>wx x
theorem ZU {c_1:Contract}{r}(h:wx c_1=some r):Bq.F (Er c_1)=some (Et r):=aV (aW co) h
noncomputable def wy :=aQ Tryz.f55
noncomputable def Es :=cI [(83,qH),(84,Bh),(42,iD)]
def JQ (x:Contract)(r:Bool):St→Prop:=QF Es Tryz.f55 [false] (Er x) (Et r)
theorem MC (c_1:Contract):cf Es 0 (JQ c_1) (cL (cL (cR (cL (cR wy))))) 0 (tP c_1) (fun u=>(sT 34 [(1,.hp 1 0 [] 2 0 0)] [⟨0,2,[ak c_1]⟩] 2)) fun x2=>(sT 34 [(1,.hp 1 0 [] 2 0 0),(3,I x2)] [⟨0,2,[ak c_1]⟩] 2):=eu (zh c_1) fun {Q K} hK self ih x2 y h hr hn=>by
 unfold lu at h
 refine cq 6 [4,6] [I x2,.isl false (c_1.Parties.map str)] 50 ?_
 refine oq 66 (I (len c_1.Parties)) rfl (cg rfl rfl rfl (du rfl)) ?_
 refine cq 2 [8] [B (decide (x2<(len c_1.Parties)))] 82 ?_
 refine sq h ?_ ?_<;>intro h
 ·refine aq 1 ?_
  refine aq 3 ?_
  refine cn [0,1,0,7,15,31,63,127,255,511,255,2047,255,4351,255,28927,61695,131071,262143] rfl (by decide +kernel) ?_
  refine dq [1] [] (.hp 1 0 [] 2 0 0) rfl (cW rfl rfl rfl) ?_
  refine dq [1] [] (.isl false (c_1.Parties.map str)) rfl (bm rfl rfl) ?_
  refine dk 1 [13] [I x2] ?_
  obtain⟨e3,he3,h⟩:=bS h
  refine dq [] [] (.iptr (str e3) 0) rfl (ah rfl rfl rfl (cp rfl rfl rfl rfl he3)) ?_
  refine dq [] [] (str e3) rfl (bm rfl rfl) ?_
  obtain⟨r4,hr4,h⟩:=bS h
  refine dq [] [] (B r4) rfl (cP (wg hr4)) ?_ (dK rfl rfl rfl rfl (ba (bl rfl) cS) (wg hr4) (.inr rfl) rfl)
  refine dk 2 [18,17] [B (!r4),B (!r4)] ?_
  obtain⟨y5,hy5,hy51,hy52⟩:=bL h
  have j5:∀u5,y5=.inr u5→Run Es 0 Q (.code (cR (cL (cL (cR (cL (cL (cR (cL (cR wy)))))))))::.blk 1::.code (cR (cR (cL (cL (cR (cL (cR wy)))))))::.lp (cL (cL (cR (cL (cR wy)))))::.blk 0::K) (sT 34 [(1,.hp 1 0 [] 2 0 0),(3,I x2),(29,B u5)] [⟨0,2,[ak c_1]⟩] 2):=by
   intro u5 hu
   replace h:=hy52 u5 hu
   refine sq h ?_ ?_<;>intro h
   ·refine cq 4 [2] [B false] 18 ?_
    exact bR rfl (hr _ (al h) _ (qp [B false]))
   ·refine aq 1 ?_
    refine cq 6 [3] [I (ac (x2+1))] 50 ?_
    refine dm ?_
    exact rf [1,3] [1] (ih _ _ h hr hn :)
  have r5:∀r',y5=.inl r'→∀st,JQ c_1 r' st→Q st:=fun r' e st hq=>hr r' (hy51 r' e) st hq
  replace h:=hy5
  refine sp 18 h rfl ?_ ?_<;>intro h
  ·refine dk 11 [29,28,27,26,25,24,23,22,21,20,19] [B true,.und,.und,.und,.und,.und,.und,.und,.und,.und,.und] ?_
   refine de 386 rfl rfl ?_
   exact rf [1,3,29] [1] (j5 _ (al h) :)
  ·refine dy [1] [] (.hp 1 0 [] 2 0 0) rfl (cW rfl rfl rfl) ?_
   refine dy [1] [] (.isl false (c_1.Parties.map str)) rfl (bm rfl rfl) ?_
   refine dk 1 [21] [I x2] ?_
   obtain⟨s6,hs6,h⟩:=bS h
   refine dy [] [] (.isl false (s6.map str)) rfl (gI rfl rfl rfl rfl (Tk rfl rfl (fun y=>(lR y).1) rfl rfl hs6)) ?_
   refine dy [1] [] (.hp 1 0 [] 2 0 0) rfl (cW rfl rfl rfl) ?_
   refine dy [1] [] (.isl false (c_1.Parties.map str)) rfl (bm rfl rfl) ?_
   refine dk 1 [25] [I x2] ?_
   obtain⟨e7,he7,h⟩:=bS h
   refine dy [] [] (.iptr (str e7) 0) rfl (ah rfl rfl rfl (cp rfl rfl rfl rfl he7)) ?_
   refine dy [] [] (str e7) rfl (bm rfl rfl) ?_
   obtain⟨r8,hr8,h⟩:=bS h
   refine dy [] [] (B r8) rfl (cP (RD hr8)) ?_ (dK rfl rfl rfl rfl (ba (bl rfl) (ba (bl rfl) cS)) (RD hr8) (.inr rfl) rfl)
   refine dk 1 [29] [B r8] ?_
   refine de 386 rfl rfl ?_
   exact rf [1,3,29] [1] (j5 _ (al h) :)
 ·refine aq 1 ?_
  exact rf [1] [1] (hn _ (al h) :) (hk:=hK)
theorem UX (c_1:Contract)(r:Bool)(h:wx c_1=some r):bN Es Tryz.f55 [false] 0 (Er c_1) (Et r):=by
 show Run _ _ (JQ c_1 r) [.code wy] _
 refine rI 34 [(0,ak c_1)] [] 1 ?_
 unfold wx at h
 refine ck 11 [1,3] [] [1] [] [.hp 1 0 [] 2 0 0,I (0)] [some ⟨0,2,[ak c_1]⟩] 49 (by kernel_rfl) ?_
 obtain⟨y9,hy9,hy91,hy92⟩:=bJ h
 refine bO rfl ?_
 refine rf [1,3] [1] (MC c_1 rfl 0 _ hy9 (fun r' e st hq=>by rw[hy91 r' e] at hq;exact hq) fun u9 hu=>?_)
 replace h:=hy92 u9 hu
 refine cq 4 [31] [.isl false (c_1.Parties.map str)] 34 ?_
 refine oq 50 (I (len c_1.Parties)) rfl (cg rfl rfl rfl (du rfl)) ?_
 obtain⟨r10,hr10,h⟩:=bS h
 refine oq 66 (B r10) rfl (cP (ia hr10)) ?_
 refine cq 2 [2] [B r10] 82 ?_
 obtain rfl:=sI h
 exact rP [B r10]
theorem RY {G:cD}:ct G 55 Bq:=gT 1 0 (bb wh (bb RG (bb jQ bP))) cJ Tryz.func55 (fun a r h=>UX a r h)
def Eh:(Contract×ae)→List V:=cA bn (oA str)
def Ei (r:Int):V×List V:=(I r,[])
noncomputable def uC :=bA [false,false] Eh Ei fun x=>uB x.1 x.2
theorem JO {c_1:Contract}{fj:ae}{r}(h:uB c_1 fj=some r):uC.F (Eh (c_1,fj))=some (Ei r):=aV (aY co (aW bT)) h
noncomputable def RS :=aQ Tryz.f56
noncomputable def JN :=cI []
def RR (x:Contract×ae)(r:Int):St→Prop:=QF JN Tryz.f56 [false,false] (Eh x) (Ei r)
theorem Mz (c_1:Contract)(fj:ae):cf JN 0 (RR (c_1,fj)) (cL (cL (cR (cL (cR RS))))) 0 (tM c_1 fj) (fun u=>(sT 22 [] [] 1)) fun x3=>(sT 22 [(1,str fj),(2,.hp 1 0 [] 2 0 0),(5,I x3)] [⟨0,2,[ak c_1]⟩] 2):=eu (ze c_1 fj) fun {Q K} hK self ih x3 y h hr hn=>by
 unfold no at h
 refine cq 6 [6,8] [I x3,.isl false (c_1.Clauses.map aA)] 50 ?_
 refine oq 66 (I (len c_1.Clauses)) rfl (cg rfl rfl rfl (du rfl)) ?_
 refine cq 2 [10] [B (decide (x3<(len c_1.Clauses)))] 82 ?_
 refine sq h ?_ ?_<;>intro h
 ·refine aq 1 ?_
  refine cq 7 [14,15] [.isl false (c_1.Clauses.map aA),I x3] 130 ?_
  obtain⟨e4,he4,h⟩:=bS h
  refine oq 146 (.iptr (aG e4) 0) rfl (ah rfl rfl rfl (cp rfl rfl rfl rfl he4)) ?_
  refine cq 5 [20] [B (e4.Id==fj)] 210 ?_
  refine sq h ?_ ?_<;>intro h
  ·refine cq 5 [4] [I x3] 242 ?_
   exact bR rfl (hr _ (al h) _ (qp [I x3]))
  ·refine aq 1 ?_
   refine cq 6 [5] [I (ac (x3+1))] 258 ?_
   refine dm ?_
   exact rf [1,2,5] [1] (ih _ _ h hr hn :)
 ·refine aq 1 ?_
  exact rf [] [] (hn _ (al h) :) (hk:=hK)
theorem UU (c_1:Contract)(fj:ae)(r:Int)(h:uB c_1 fj=some r):bN JN Tryz.f56 [false,false] 0 (Eh (c_1,fj)) (Ei r):=by
 show Run _ _ (RR (c_1,fj) r) [.code RS] _
 refine rI 22 [(0,ak c_1),(1,str fj)] [] 1 ?_
 unfold uB at h
 refine ck 11 [2,5] [] [1] [] [.hp 1 0 [] 2 0 0,I (0)] [some ⟨0,2,[ak c_1]⟩] 49 (by kernel_rfl) ?_
 obtain⟨y5,hy5,hy51,hy52⟩:=bJ h
 refine bO rfl ?_
 refine rf [1,2,5] [1] (Mz c_1 fj rfl 0 _ hy5 (fun r' e st hq=>by rw[hy51 r' e] at hq;exact hq) fun u5 hu=>?_)
 replace h:=hy52 u5 hu
 refine cq 4 [4] [I (-1)] 17 ?_
 obtain rfl:=sI h
 exact rP [I (-1)]
theorem GZ {G:cD}:ct G 56 uC:=gT 2 0 bP cJ Tryz.func56 (fun a r h=>UU a.1 a.2 r h)
def DX:Int→List V:=oA I
def DY (r:Bool):V×List V:=(B r,[])
noncomputable def Ba :=bA [false] DX DY fun x=>F6 x
theorem ZK {hY:Int}{r}(h:F6 hY=some r):Ba.F (DX hY)=some (DY r):=aV (aW bF) h
noncomputable def ZM :=aQ Tryz.f146
noncomputable def Ru :=cI [(42,iD)]
def ZL (x:Int)(r:Bool):St→Prop:=QF Ru Tryz.f146 [false] (DX x) (DY r)
theorem UF (hY:Int)(r:Bool)(h:F6 hY=some r):bN Ru Tryz.f146 [false] 0 (DX hY) (DY r):=by
 show Run _ _ (ZL hY r) [.code ZM] _
 refine rI 5 [(0,I hY)] [] 1 ?_
 unfold F6 at h
 refine cq 7 [3] [I hY] 33 ?_
 obtain⟨r2,hr2,h⟩:=bS h
 refine oq 49 (B r2) rfl (cP (ia hr2)) ?_
 refine cq 2 [2] [B r2] 65 ?_
 obtain rfl:=sI h
 exact rP [B r2]
theorem Rv {G:cD}:ct G 146 Ba:=gT 1 0 (bb jQ bP) cJ Tryz.func146 (fun a r h=>UF a r h)
def DZ:Condition→List V:=oA bB
def D0 (r:Bool):V×List V:=(B r,[])
noncomputable def Bc :=bA [false] DZ D0 fun x=>Bb x
theorem ZN {c_1:Condition}{r}(h:Bb c_1=some r):Bc.F (DZ c_1)=some (D0 r):=aV (aW dH) h
noncomputable def nI :=aQ Tryz.f129
noncomputable abbrev jC :=cR (cR (cR nI))
noncomputable abbrev Nq :=cR (cL (cR (cR (cR (cL (cR (cL (cR (cR nI)))))))))
noncomputable abbrev Nr :=cR (cL (cR (cR (cR (cR (cR (cL (cR (cL (cR (cR nI)))))))))))
noncomputable abbrev Ns :=cR (cL (cR (cR (cR (cR (cR (cR (cR (cL (cR (cL (cR (cR nI)))))))))))))
noncomputable abbrev Nt :=cR (cL (cR (cR (cR (cR (cR (cR (cR (cR (cR (cL (cR (cL (cR (cR nI)))))))))))))))
noncomputable def jB :=cI [(83,qH),(146,Ba)]
def gU (x:Condition)(r:Bool):St→Prop:=QF jB Tryz.f129 [false] (DZ x) (D0 r)
theorem UG (c_1:Condition)(r:Bool)(h:Bb c_1=some r):bN jB Tryz.f129 [false] 0 (DZ c_1) (D0 r):=by
 show Run _ _ (gU c_1 r) [.code nI] _
 refine rI 80 [(0,ao c_1)] [] 1 ?_
 unfold Bb at h
 refine ck 9 [1,5] [] [1] [] [.hp 1 0 [] 4 0 0,.isl false (c_1.Parts.map aF)] [some ⟨0,4,[ao c_1]⟩] 65 (by kernel_rfl) ?_
 refine oq 81 (I (len c_1.Parts)) rfl (cg rfl rfl rfl (du rfl)) ?_
 refine cq 14 [3,8,9] [I (len c_1.Parts),I c_1.Op,B (c_1.Op==1)] 161 ?_
 refine sq h ?_ ?_<;>intro h
 ·refine cq 5 [13] [B ((len c_1.Parts)==0)] 209 ?_
  obtain⟨u2,hu2,h⟩:=lJ h
  have j2:Run jB 0 (gU c_1 r) (.code (cR (cL (cR (cL (cR (cL (cR (cR nI))))))))::.blk 0::.code jC::[]) (sT 80 [(2,B u2)] [] 1):=by
   obtain rfl:=sI h
   exact rP [B u2]
  replace h:=hu2
  clear hu2
  refine sp 13 h rfl ?_ ?_<;>intro h
  ·refine cq 5 [18] [B (c_1.Name==([]:ae))] 289 ?_
   obtain⟨u3,hu3,h⟩:=lJ h
   have j3:Run jB 0 (gU c_1 r) (.code (cR (cL (cR (cL (cR (cL (cR (cR nI))))))))::.blk 0::.code jC::[]) (sT 80 [(2,B u3)] [] 1):=by
    subst h
    exact rf [2] [] (j2 :)
   replace h:=hu3
   clear hu3
   refine sp 18 h rfl ?_ ?_<;>intro h
   ·refine cq 6 [2] [B (c_1.Day==0)] 369 ?_
    subst h
    exact rf [2] [] (j3 :)
   ·refine cq 6 [2] [B false] 369 ?_
    subst h
    exact rf [2] [] (j3 :)
  ·refine cq 11 [2] [B false] 369 ?_
   subst h
   exact rf [2] [] (j2 :)
 ·refine cq 5 [23] [B (c_1.Op==2)] 193 ?_
  refine sq h ?_ ?_<;>intro h
  ·refine cq 5 [27] [B ((len c_1.Parts)==0)] 241 ?_
   obtain⟨y4,hy4,hy41,hy42⟩:=bJ h
   have j4:∀u4,y4=.inr u4→Run jB 0 (gU c_1 r) (.code Nq::.blk 0::.code jC::[]) (sT 80 [(2,B u4)] [] 1):=by
    intro u4 hu
    replace h:=hy42 u4 hu
    obtain rfl:=sI h
    exact rP [B u4]
   have r4:∀r',y4=.inl r'→∀st,gU c_1 r' st→(gU c_1 r) st:=fun r' e st hq=>by rw[hy41 r' e] at hq;exact hq
   replace h:=hy4
   refine sp 27 h rfl ?_ ?_<;>intro h
   ·refine cq 2 [29] [str c_1.Name] 273 ?_
    obtain⟨r5,hr5,h⟩:=bS h
    refine oy 289 (B r5) rfl (cP (wg hr5)) ?_
    refine cq 2 [32] [B r5] 321 ?_
    obtain⟨u6,hu6,h⟩:=lJ h
    have j6:Run jB 0 (gU c_1 r) (.code Nq::.blk 0::.code jC::[]) (sT 80 [(2,B u6)] [] 1):=by
     exact rf [2] [] (j4 _ (al h) :)
    replace h:=hu6
    clear hu6
    refine sp 32 h rfl ?_ ?_<;>intro h
    ·refine cq 6 [2] [B (c_1.Day==0)] 401 ?_
     subst h
     exact rf [2] [] (j6 :)
    ·refine cq 6 [2] [B false] 401 ?_
     subst h
     exact rf [2] [] (j6 :)
   ·refine cq 11 [2] [B false] 401 ?_
    exact rf [2] [] (j4 _ (al h) :)
  ·refine cq 5 [37] [B (c_1.Op==3)] 225 ?_
   refine sq h ?_ ?_<;>intro h
   ·refine cq 5 [41] [B ((len c_1.Parts)==0)] 273 ?_
    obtain⟨y7,hy7,hy71,hy72⟩:=bJ h
    have j7:∀u7,y7=.inr u7→Run jB 0 (gU c_1 r) (.code Nr::.blk 0::.code jC::[]) (sT 80 [(2,B u7)] [] 1):=by
     intro u7 hu
     replace h:=hy72 u7 hu
     obtain rfl:=sI h
     exact rP [B u7]
    have r7:∀r',y7=.inl r'→∀st,gU c_1 r' st→(gU c_1 r) st:=fun r' e st hq=>by rw[hy71 r' e] at hq;exact hq
    replace h:=hy7
    refine sp 41 h rfl ?_ ?_<;>intro h
    ·refine cq 5 [46] [B (c_1.Name==([]:ae))] 353 ?_
     obtain⟨y8,hy8,hy81,hy82⟩:=bL h
     have j8:∀u8,y8=.inr u8→Run jB 0 (gU c_1 r) (.code Nr::.blk 0::.code jC::[]) (sT 80 [(2,B u8)] [] 1):=by
      intro u8 hu
      replace h:=hy82 u8 hu
      exact rf [2] [] (j7 _ (al h) :)
     have r8:∀r',y8=.inl r'→∀st,gU c_1 r' st→(gU c_1 r) st:=fun r' e st hq=>r7 r' (hy81 r' e) st hq
     replace h:=hy8
     refine sp 46 h rfl ?_ ?_<;>intro h
     ·refine cq 2 [48] [I c_1.Day] 385 ?_
      obtain⟨r9,hr9,h⟩:=bS h
      refine oy 401 (B r9) rfl (cP (ZK hr9)) ?_
      refine cq 3 [2] [B r9] 433 ?_
      exact rf [2] [] (j8 _ (al h) :)
     ·refine cq 6 [2] [B false] 433 ?_
      exact rf [2] [] (j8 _ (al h) :)
    ·refine cq 11 [2] [B false] 433 ?_
     exact rf [2] [] (j7 _ (al h) :)
   ·refine cq 5 [51] [B (c_1.Op==4)] 257 ?_
    refine sq h ?_ ?_<;>intro h
    ·refine cq 5 [55] [B ((len c_1.Parts)==1)] 305 ?_
     obtain⟨u10,hu10,h⟩:=lJ h
     have j10:Run jB 0 (gU c_1 r) (.code Ns::.blk 0::.code jC::[]) (sT 80 [(2,B u10)] [] 1):=by
      obtain rfl:=sI h
      exact rP [B u10]
     replace h:=hu10
     clear hu10
     refine sp 55 h rfl ?_ ?_<;>intro h
     ·refine cq 5 [60] [B (c_1.Name==([]:ae))] 385 ?_
      obtain⟨u11,hu11,h⟩:=lJ h
      have j11:Run jB 0 (gU c_1 r) (.code Ns::.blk 0::.code jC::[]) (sT 80 [(2,B u11)] [] 1):=by
       subst h
       exact rf [2] [] (j10 :)
      replace h:=hu11
      clear hu11
      refine sp 60 h rfl ?_ ?_<;>intro h
      ·refine cq 6 [2] [B (c_1.Day==0)] 465 ?_
       subst h
       exact rf [2] [] (j11 :)
      ·refine cq 6 [2] [B false] 465 ?_
       subst h
       exact rf [2] [] (j11 :)
     ·refine cq 11 [2] [B false] 465 ?_
      subst h
      exact rf [2] [] (j10 :)
    ·refine cq 6 [65] [B (c_1.Op==5)] 289 ?_
     obtain⟨u12,hu12,h⟩:=lJ h
     have j12:Run jB 0 (gU c_1 r) (.code (cR (cR (cR (cR (cR (cR (cR (cR (cR (cL (cR (cL (cR (cR nI))))))))))))))::.blk 0::.code jC::[]) (sT 80 [(1,.hp 1 0 [] 4 0 0),(3,I (len c_1.Parts)),(65,B u12)] [⟨0,4,[ao c_1]⟩] 2):=by
      refine sq h ?_ ?_<;>intro h
      ·refine cq 5 [70] [B ((len c_1.Parts)==2)] 50 ?_
       obtain⟨u13,hu13,h⟩:=lJ h
       have j13:Run jB 0 (gU c_1 r) (.code Nt::.blk 0::.code jC::[]) (sT 80 [(2,B u13)] [] 1):=by
        obtain rfl:=sI h
        exact rP [B u13]
       replace h:=hu13
       clear hu13
       refine sp 70 h rfl ?_ ?_<;>intro h
       ·refine cq 5 [75] [B (c_1.Name==([]:ae))] 130 ?_
        obtain⟨u14,hu14,h⟩:=lJ h
        have j14:Run jB 0 (gU c_1 r) (.code Nt::.blk 0::.code jC::[]) (sT 80 [(2,B u14)] [] 1):=by
         subst h
         exact rf [2] [] (j13 :)
        replace h:=hu14
        clear hu14
        refine sp 75 h rfl ?_ ?_<;>intro h
        ·refine cq 6 [2] [B (c_1.Day==0)] 210 ?_
         subst h
         exact rf [2] [] (j14 :)
        ·refine cq 6 [2] [B false] 210 ?_
         subst h
         exact rf [2] [] (j14 :)
       ·refine cq 11 [2] [B false] 210 ?_
        subst h
        exact rf [2] [] (j13 :)
      ·refine aq 1 ?_
       refine cq 5 [2] [B false] 18 ?_
       obtain rfl:=sI h
       exact rP [B false]
     replace h:=hu12
     clear hu12
     refine sk h rfl rfl ?_ ?_<;>intro h
     ·refine aq 1 ?_
      subst h
      exact rf [1,3,65] [1] (j12 :)
     ·refine cq 4 [65] [B (c_1.Op==6)] 321 ?_
      subst h
      exact rf [1,3,65] [1] (j12 :)
theorem Rx {G:cD}:ct G 129 Bc:=gT 1 0 (bb wh (bb Rv bP)) cJ Tryz.func129 (fun a r h=>UG a r h)
def wc:Condition→List V:=oA bB
def wd (r:Bool):V×List V:=(B r,[])
noncomputable def we (cy:Condition→Option Bool):Ent:=bA [false] wc wd cy
theorem Nu (cy:Condition→Option Bool){x}{r}(h:cy x=some r):(we cy).F (wc x)=some (wd r):=aV (aW dH) h
noncomputable def Bd :=we (aP qG)
theorem ZO {c_1:Condition}{r}(h:F7 c_1=some r):Bd.F (wc c_1)=some (wd r):=Nu (aP qG) h
noncomputable def Rz :=aQ Tryz.f107
noncomputable def JE (cy:Condition→Option Bool):Env:=cI [(129,Bc),(107,(we cy))]
def Ry (cy:Condition→Option Bool)(x:Condition)(r:Bool):St→Prop:=QF (JE cy) Tryz.f107 [false] (wc x) (wd r)
theorem Mt (cy:Condition→Option Bool)(c_1:Condition):cf (JE cy) 0 (Ry cy c_1) (cL (cL (cR (cL (cR (cR Rz)))))) 0 (qu cy c_1) (fun u=>(sT 21 [] [] 1)) fun x3=>(sT 21 [(1,.hp 1 0 [] 4 0 0),(3,I x3)] [⟨0,4,[ao c_1]⟩] 2):=eu (yY cy c_1) fun {Q K} hK self ih x3 y h hr hn=>by
 unfold lj at h
 refine cq 6 [7,9] [I x3,.isl false (c_1.Parts.map aF)] 50 ?_
 refine oq 66 (I (len c_1.Parts)) rfl (cg rfl rfl rfl (du rfl)) ?_
 refine cq 2 [11] [B (decide (x3<(len c_1.Parts)))] 82 ?_
 refine sq h ?_ ?_<;>intro h
 ·refine aq 1 ?_
  refine cq 7 [15,16] [.isl false (c_1.Parts.map aF),I x3] 130 ?_
  obtain⟨e4,he4,h⟩:=bS h
  refine oq 146 (.iptr (ao e4) 0) rfl (ah rfl rfl rfl (cp rfl rfl (dC e4) rfl he4)) ?_
  refine cq 1 [18] [ao e4] 162 ?_
  obtain⟨r5,hr5,h⟩:=bS h
  refine oq 178 (B r5) rfl (bC rfl rfl (bW rfl rfl rfl (ba (bl rfl) cS) (Nu cy hr5) (.inr rfl) dE rfl rfl rfl)) ?_
  refine cq 2 [20] [B (!r5)] 194 ?_
  refine sq h ?_ ?_<;>intro h
  ·refine cq 4 [2] [B false] 210 ?_
   exact bR rfl (hr _ (al h) _ (qp [B false]))
  ·refine aq 1 ?_
   refine cq 6 [3] [I (ac (x3+1))] 242 ?_
   refine dm ?_
   exact rf [1,3] [1] (ih _ _ h hr hn :)
 ·refine aq 1 ?_
  exact rf [] [] (hn _ (al h) :) (hk:=hK)
theorem UI (cy:Condition→Option Bool)(c_1:Condition)(r:Bool)(h:tD cy c_1=some r):bN (JE cy) Tryz.f107 [false] 0 (wc c_1) (wd r):=by
 show Run _ _ (Ry cy c_1 r) [.code Rz] _
 refine rI 21 [(0,ao c_1)] [] 1 ?_
 unfold tD at h
 refine ck 9 [1,4] [] [1] [] [.hp 1 0 [] 4 0 0,ao c_1] [some ⟨0,4,[ao c_1]⟩] 49 (by kernel_rfl) ?_
 obtain⟨r2,hr2,h⟩:=bS h
 refine oq 65 (B r2) rfl (cP (ZN hr2)) ?_
 refine cq 2 [6] [B (!r2)] 81 ?_
 refine sq h ?_ ?_<;>intro h
 ·refine cq 4 [2] [B false] 97 ?_
  obtain rfl:=sI h
  exact rP [B false]
 ·refine aq 1 ?_
  refine cq 6 [3] [I (0)] 97 ?_
  obtain⟨y6,hy6,hy61,hy62⟩:=bJ h
  refine bO rfl ?_
  refine rf [1,3] [1] (Mt cy c_1 rfl 0 _ hy6 (fun r' e st hq=>by rw[hy61 r' e] at hq;exact hq) fun u6 hu=>?_)
  replace h:=hy62 u6 hu
  refine cq 4 [2] [B true] 17 ?_
  obtain rfl:=sI h
  exact rP [B true]
theorem RA {G:cD}:ct G 107 Bd:=jt fun cy g_Ffdc=>gT 1 0 (bb Rx (bb g_Ffdc bP)) cJ Tryz.func107 (fun a r h=>UI cy a r h)
def wt:Condition→List V:=oA bB
def wu (r:Int):V×List V:=(I r,[])
noncomputable def wv (cB:Condition→Option Int):Ent:=bA [false] wt wu cB
theorem Nw (cB:Condition→Option Int){x}{r}(h:cB x=some r):(wv cB).F (wt x)=some (wu r):=aV (aW dH) h
noncomputable def Bk :=wv (aP lq)
theorem ZR {c_1:Condition}{r}(h:JK c_1=some r):Bk.F (wt c_1)=some (wu r):=Nw (aP lq) h
noncomputable def RN :=aQ Tryz.f108
noncomputable def JL (cB:Condition→Option Int):Env:=cI [(108,(wv cB))]
def RM (cB:Condition→Option Int)(x:Condition)(r:Int):St→Prop:=QF (JL cB) Tryz.f108 [false] (wt x) (wu r)
theorem My (cB:Condition→Option Int)(c_1:Condition):cf (JL cB) 0 (RM cB c_1) (cL (cL (cR (cL (cR (cR RN)))))) 0 (lX cB c_1) (fun u=>(sT 21 [(3,I u)] [] 1)) fun x2=>(sT 21 [(1,.hp 1 0 [] 4 0 0),(3,I x2.1),(4,I x2.2)] [⟨0,4,[ao c_1]⟩] 2):=eu (zd cB c_1) fun {Q K} hK self ih x2 y h hr hn=>by
 unfold jT at h
 refine cq 6 [5,7] [I x2.2,.isl false (c_1.Parts.map aF)] 50 ?_
 refine oq 66 (I (len c_1.Parts)) rfl (cg rfl rfl rfl (du rfl)) ?_
 refine cq 2 [9] [B (decide (x2.2<(len c_1.Parts)))] 82 ?_
 refine sq h ?_ ?_<;>intro h
 ·refine aq 1 ?_
  refine cq 7 [12,14,15] [I x2.1,.isl false (c_1.Parts.map aF),I x2.2] 146 ?_
  obtain⟨e3,he3,h⟩:=bS h
  refine oq 162 (.iptr (ao e3) 0) rfl (ah rfl rfl rfl (cp rfl rfl (dC e3) rfl he3)) ?_
  refine cq 1 [17] [ao e3] 178 ?_
  obtain⟨r4,hr4,h⟩:=bS h
  refine oq 194 (I r4) rfl (bC rfl rfl (bW rfl rfl rfl (ba (bl rfl) cS) (Nw cB hr4) (.inr rfl) dE rfl rfl rfl)) ?_
  refine cq 9 [3,4] [I (ac (x2.1+r4)),I (ac (x2.2+1))] 274 ?_
  refine dm ?_
  exact rf [1,3,4] [1] (ih _ _ h hr hn :)
 ·refine aq 1 ?_
  exact rf [3] [] (hn _ (al h) :) (hk:=hK)
theorem US (cB:Condition→Option Int)(c_1:Condition)(r:Int)(h:tK cB c_1=some r):bN (JL cB) Tryz.f108 [false] 0 (wt c_1) (wu r):=by
 show Run _ _ (RM cB c_1 r) [.code RN] _
 refine rI 21 [(0,ao c_1)] [] 1 ?_
 unfold tK at h
 refine ck 15 [1,3,4] [] [1] [] [.hp 1 0 [] 4 0 0,I (1),I (0)] [some ⟨0,4,[ao c_1]⟩] 65 (by kernel_rfl) ?_
 obtain⟨y5,hy5,hy51,hy52⟩:=bJ h
 refine bO rfl ?_
 refine rf [1,3,4] [1] (My cB c_1 rfl (1,0) _ hy5 (fun r' e st hq=>by rw[hy51 r' e] at hq;exact hq) fun u5 hu=>?_)
 replace h:=hy52 u5 hu
 refine cq 5 [2] [I u5] 33 ?_
 obtain rfl:=sI h
 exact rP [I u5]
theorem RO {G:cD}:ct G 108 Bk:=jt fun cB g_Ffdj=>gT 1 0 (bb g_Ffdj bP) cJ Tryz.func108 (fun a r h=>US cB a r h)
def D1:Condition→List V:=oA bB
def D3 (r:Bool):V×List V:=(B r,[])
noncomputable def Bf :=bA [false] D1 D3 fun x=>Be x
theorem ZP {c_1:Condition}{r}(h:Be c_1=some r):Bf.F (D1 c_1)=some (D3 r):=aV (aW dH) h
noncomputable def RB :=aQ Tryz.f85
noncomputable def JF :=cI [(107,Bd),(108,Bk)]
def D2 (x:Condition)(r:Bool):St→Prop:=QF JF Tryz.f85 [false] (D1 x) (D3 r)
theorem UJ (c_1:Condition)(r:Bool)(h:Be c_1=some r):bN JF Tryz.f85 [false] 0 (D1 c_1) (D3 r):=by
 show Run _ _ (D2 c_1 r) [.code RB] _
 refine rI 10 [(0,ao c_1)] [] 1 ?_
 unfold Be at h
 refine ck 8 [1,3] [] [1] [] [.hp 1 0 [] 4 0 0,ao c_1] [some ⟨0,4,[ao c_1]⟩] 49 (by kernel_rfl) ?_
 obtain⟨r2,hr2,h⟩:=bS h
 refine oq 65 (B r2) rfl (cP (ZO hr2)) ?_
 refine cq 1 [5] [B r2] 81 ?_
 obtain⟨y3,hy3,hy31,hy32⟩:=bJ h
 have j3:∀u3,y3=.inr u3→Run JF 0 (D2 c_1 r) (.code (cR (cR RB))::[]) (sT 10 [(2,B u3)] [] 1):=by
  intro u3 hu
  replace h:=hy32 u3 hu
  obtain rfl:=sI h
  exact rP [B u3]
 have r3:∀r',y3=.inl r'→∀st,D2 c_1 r' st→(D2 c_1 r) st:=fun r' e st hq=>by rw[hy31 r' e] at hq;exact hq
 replace h:=hy3
 refine sp 5 h rfl ?_ ?_<;>intro h
 ·refine cq 1 [6] [ao c_1] 97 ?_
  obtain⟨r4,hr4,h⟩:=bS h
  refine oy 113 (I r4) rfl (cP (ZR hr4)) ?_
  refine cq 4 [2] [B (decide (r4≤15))] 161 ?_
  exact rf [2] [] (j3 _ (al h) :)
 ·refine cq 6 [2] [B false] 161 ?_
  exact rf [2] [] (j3 _ (al h) :)
theorem RC {G:cD}:ct G 85 Bf:=gT 1 0 (bb RA (bb RO bP)) cJ Tryz.func85 (fun a r h=>UJ a r h)
def Ef:(Contract×Int)→List V:=cA bn (oA I)
def Eg (r:Bool):V×List V:=(B r,[])
noncomputable def Bm :=bA [false,false] Ef Eg fun x=>Bl x.1 x.2
theorem RP {c_1:Contract}{i_2:Int}{r}(h:Bl c_1 i_2=some r):Bm.F (Ef (c_1,i_2))=some (Eg r):=aV (aY co (aW bF)) h
noncomputable def JM :=aQ Tryz.f57
noncomputable abbrev nm :=cR (cR (cR (cR JM)))
noncomputable abbrev qv :=cR (cL (cR (cR (cR JM))))
noncomputable abbrev tL :=cR nm
noncomputable abbrev xK :=cR (cL nm)
noncomputable abbrev F8 :=cR (cR (cR tL))
noncomputable def iX :=cI [(83,qH),(42,iD),(56,uC),(85,Bf)]
def ey (x:Contract×Int)(r:Bool):St→Prop:=QF iX Tryz.f57 [false,false] (Ef x) (Eg r)
theorem UT (c_1:Contract)(i_2:Int)(r:Bool)(h:Bl c_1 i_2=some r):bN iX Tryz.f57 [false,false] 0 (Ef (c_1,i_2)) (Eg r):=by
 show Run _ _ (ey (c_1,i_2) r) [.code JM] _
 refine rI 114 [(0,ak c_1),(1,I i_2)] [] 1 ?_
 unfold Bl at h
 refine ck 10 [2,9,10] [] [1] [] [.hp 1 0 [] 2 0 0,.isl false (c_1.Clauses.map aA),I i_2] [some ⟨0,2,[ak c_1]⟩] 81 (by kernel_rfl) ?_
 obtain⟨e3,he3,h⟩:=bS h
 refine oq 97 (.iptr (aG e3) 0) rfl (ah rfl rfl rfl (cp rfl rfl rfl rfl he3)) ?_
 refine ck 2 [5,12] [] [113] [] [.hp 113 0 [] 12 0 0,aG e3] [some ⟨0,12,[.agg [str ([]),I (0),I (0),str ([]),I (0),I (0),I (0),str ([]),I (0),.isl true [],I (0),str ([])]]⟩] 129 (by kernel_rfl) ?_
 refine gJ 113 [.agg [str ([]),I (0),I (0),str ([]),I (0),I (0),I (0),str ([]),I (0),.usl 4 (([]).map ai),I (0),str ([])]] rfl rfl (aN (iH (aN (.refl _) (aN (.refl _) (aN (.refl _) (aN (.refl _) (aN (.refl _) (aN (.refl _) (aN (.refl _) (aN (.refl _) (aN (.refl _) (aN (.nil _) (aN (.refl _) (aN (.refl _) fp))))))))))))) fp) ?_
 refine ck 6 [14] [] [113] [] [.isl false (c_1.Parties.map str)] [some ⟨2,12,[aG e3]⟩] 177 (by kernel_rfl) ?_
 refine oq 193 (I (len c_1.Parties)) rfl (cg rfl rfl rfl (du rfl)) ?_
 refine cq 7 [6,17] [I (len c_1.Parties),str e3.Id] 241 ?_
 obtain⟨r4,hr4,h⟩:=bS h
 refine oq 257 (B r4) rfl (cP (wg hr4)) ?_
 refine cq 2 [20] [B (!r4)] 289 ?_
 obtain⟨y5,hy5,hy51,hy52⟩:=bJ h
 have j5:∀u5,y5=.inr u5→Run iX 0 (ey (c_1,i_2) r) (.code qv::.code nm::[]) (sT 114 [(1,I i_2),(2,.hp 1 0 [] 2 0 0),(5,.hp 2 0 [] 12 0 0),(60,B u5)] [⟨0,2,[ak c_1]⟩,⟨0,12,[aG e3]⟩] 3):=by
  intro u5 hu
  replace h:=hy52 u5 hu
  refine sq h ?_ ?_<;>intro h
  ·refine cq 4 [4] [B false] 19 ?_
   obtain rfl:=sI h
   exact rP [B false]
  ·refine aq 1 ?_
   refine cq 5 [62] [I e3.Amount] 35 ?_
   obtain⟨r6,hr6,h⟩:=bS h
   refine oq 51 (B r6) rfl (cP (ia hr6)) ?_
   refine cq 2 [65] [B (!r6)] 83 ?_
   obtain⟨y7,hy7,hy71,hy72⟩:=bJ h
   have j7:∀u7,y7=.inr u7→Run iX 0 (ey (c_1,i_2) r) (.code xK::.code tL::[]) (sT 114 [(1,I i_2),(2,.hp 1 0 [] 2 0 0),(5,.hp 2 0 [] 12 0 0),(85,B u7)] [⟨0,2,[ak c_1]⟩,⟨0,12,[aG e3]⟩] 3):=by
    intro u7 hu
    replace h:=hy72 u7 hu
    refine sq h ?_ ?_<;>intro h
    ·refine cq 4 [4] [B false] 19 ?_
     obtain rfl:=sI h
     exact rP [B false]
    ·refine aq 1 ?_
     refine cq 7 [88] [B (e3.Repair==([]:ae))] 51 ?_
     refine sq h ?_ ?_<;>intro h
     ·refine cq 4 [4] [B true] 67 ?_
      obtain rfl:=sI h
      exact rP [B true]
     ·refine aq 1 ?_
      refine cq 5 [89,91] [ak c_1,str e3.Repair] 99 ?_
      obtain⟨r8,hr8,h⟩:=bS h
      refine oq 115 (I r8) rfl (cP (JO hr8)) ?_
      refine cq 7 [7,95] [I r8,B (decide (r8≥0))] 179 ?_
      obtain⟨y9,hy9,hy91,hy92⟩:=bJ h
      have j9:∀u9,y9=.inr u9→Run iX 0 (ey (c_1,i_2) r) (.code F8::[]) (sT 114 [(4,B u9)] [] 1):=by
       intro u9 hu
       replace h:=hy92 u9 hu
       obtain rfl:=sI h
       exact rP [B u9]
      have r9:∀r',y9=.inl r'→∀st,ey (c_1,i_2) r' st→(ey (c_1,i_2) r) st:=fun r' e st hq=>by rw[hy91 r' e] at hq;exact hq
      replace h:=hy9
      refine sp 95 h rfl ?_ ?_<;>intro h
      ·refine cq 5 [100] [B (r8 != i_2)] 259 ?_
       obtain⟨y10,hy10,hy101,hy102⟩:=bL h
       have j10:∀u10,y10=.inr u10→Run iX 0 (ey (c_1,i_2) r) (.code F8::[]) (sT 114 [(4,B u10)] [] 1):=by
        intro u10 hu
        replace h:=hy102 u10 hu
        exact rf [4] [] (j9 _ (al h) :)
       have r10:∀r',y10=.inl r'→∀st,ey (c_1,i_2) r' st→(ey (c_1,i_2) r) st:=fun r' e st hq=>r9 r' (hy101 r' e) st hq
       replace h:=hy10
       refine sp 100 h rfl ?_ ?_<;>intro h
       ·refine cq 3 [102,103] [.isl false (c_1.Clauses.map aA),I r8] 307 ?_
        obtain⟨e11,he11,h⟩:=bS h
        refine oy 323 (.iptr (aG e11) 0) rfl (ah rfl rfl rfl (cp rfl rfl rfl rfl he11)) ?_
        refine cq 5 [109] [B (e11.Kind==1)] 403 ?_
        obtain⟨u12,hu12,h⟩:=lJ h
        have j12:Run iX 0 (ey (c_1,i_2) r) (.code F8::[]) (sT 114 [(4,B u12)] [] 1):=by
         exact rf [4] [] (j10 _ (al h) :)
        replace h:=hu12
        clear hu12
        refine sp 109 h rfl ?_ ?_<;>intro h
        ·refine cq 6 [4] [B (e3.Kind != 3)] 483 ?_
         subst h
         exact rf [4] [] (j12 :)
        ·refine cq 6 [4] [B false] 483 ?_
         subst h
         exact rf [4] [] (j12 :)
       ·refine cq 15 [4] [B false] 483 ?_
        exact rf [4] [] (j10 _ (al h) :)
      ·refine cq 20 [4] [B false] 483 ?_
       exact rf [4] [] (j9 _ (al h) :)
   have r7:∀r',y7=.inl r'→∀st,ey (c_1,i_2) r' st→(ey (c_1,i_2) r) st:=fun r' e st hq=>by rw[hy71 r' e] at hq;exact hq
   replace h:=hy7
   refine sp 65 h rfl ?_ ?_<;>intro h
   ·refine cq 21 [85] [B true] 403 ?_
    exact rf [1,2,5,85] [1,2] (j7 _ (al h) :)
   ·refine cq 2 [67] [I e3.Within] 115 ?_
    obtain⟨r13,hr13,h⟩:=bS h
    refine oy 131 (B r13) rfl (cP (ia hr13)) ?_
    refine cq 3 [71] [B (!r13)] 179 ?_
    obtain⟨u14,hu14,h⟩:=lJ h
    have j14:Run iX 0 (ey (c_1,i_2) r) (.code xK::.code tL::[]) (sT 114 [(1,I i_2),(2,.hp 1 0 [] 2 0 0),(5,.hp 2 0 [] 12 0 0),(85,B u14)] [⟨0,2,[ak c_1]⟩,⟨0,12,[aG e3]⟩] 3):=by
     exact rf [1,2,5,85] [1,2] (j7 _ (al h) :)
    replace h:=hu14
    clear hu14
    refine sp 71 h rfl ?_ ?_<;>intro h
    ·refine cq 15 [85] [B true] 403 ?_
     subst h
     exact rf [1,2,5,85] [1,2] (j14 :)
    ·refine cq 4 [75] [B (e3.Kind != 1)] 243 ?_
     obtain⟨u15,hu15,h⟩:=lJ h
     have j15:Run iX 0 (ey (c_1,i_2) r) (.code xK::.code tL::[]) (sT 114 [(1,I i_2),(2,.hp 1 0 [] 2 0 0),(5,.hp 2 0 [] 12 0 0),(85,B u15)] [⟨0,2,[ak c_1]⟩,⟨0,12,[aG e3]⟩] 3):=by
      subst h
      exact rf [1,2,5,85] [1,2] (j14 :)
     replace h:=hu15
     clear hu15
     refine sp 75 h rfl ?_ ?_<;>intro h
     ·refine cq 4 [79] [B (e3.Amount != 0)] 307 ?_
      obtain⟨u16,hu16,h⟩:=lJ h
      have j16:Run iX 0 (ey (c_1,i_2) r) (.code xK::.code tL::[]) (sT 114 [(1,I i_2),(2,.hp 1 0 [] 2 0 0),(5,.hp 2 0 [] 12 0 0),(85,B u16)] [⟨0,2,[ak c_1]⟩,⟨0,12,[aG e3]⟩] 3):=by
       subst h
       exact rf [1,2,5,85] [1,2] (j15 :)
      replace h:=hu16
      clear hu16
      refine sp 79 h rfl ?_ ?_<;>intro h
      ·refine cq 7 [85] [B true] 403 ?_
       subst h
       exact rf [1,2,5,85] [1,2] (j16 :)
      ·refine cq 7 [85] [B (e3.Within != 0)] 403 ?_
       subst h
       exact rf [1,2,5,85] [1,2] (j16 :)
     ·refine cq 11 [85] [B false] 403 ?_
      subst h
      exact rf [1,2,5,85] [1,2] (j15 :)
 have r5:∀r',y5=.inl r'→∀st,ey (c_1,i_2) r' st→(ey (c_1,i_2) r) st:=fun r' e st hq=>by rw[hy51 r' e] at hq;exact hq
 replace h:=hy5
 refine sp 20 h rfl ?_ ?_<;>intro h
 ·refine cq 41 [60] [B true] 929 ?_
  exact rf [1,2,5,60] [1,113] (j5 _ (al h) :)
 ·refine cq 2 [22] [str e3.Action] 321 ?_
  obtain⟨r17,hr17,h⟩:=bS h
  refine oy 337 (B r17) rfl (cP (wg hr17)) ?_
  refine cq 3 [26] [B (!r17)] 385 ?_
  obtain⟨y18,hy18,hy181,hy182⟩:=bL h
  have j18:∀u18,y18=.inr u18→Run iX 0 (ey (c_1,i_2) r) (.code qv::.code nm::[]) (sT 114 [(1,I i_2),(2,.hp 1 0 [] 2 0 0),(5,.hp 2 0 [] 12 0 0),(60,B u18)] [⟨0,2,[ak c_1]⟩,⟨0,12,[aG e3]⟩] 3):=by
   intro u18 hu
   replace h:=hy182 u18 hu
   exact rf [1,2,5,60] [1,2] (j5 _ (al h) :)
  have r18:∀r',y18=.inl r'→∀st,ey (c_1,i_2) r' st→(ey (c_1,i_2) r) st:=fun r' e st hq=>r5 r' (hy181 r' e) st hq
  replace h:=hy18
  refine sp 26 h rfl ?_ ?_<;>intro h
  ·refine cq 35 [60] [B true] 929 ?_
   exact rf [1,2,5,60] [1,113] (j18 _ (al h) :)
  ·refine cq 2 [28] [I e3.Kind] 417 ?_
   obtain⟨r19,hr19,h⟩:=bS h
   refine oy 433 (B r19) rfl (cP (ia hr19)) ?_
   refine cq 3 [32] [B (!r19)] 481 ?_
   obtain⟨y20,hy20,hy201,hy202⟩:=bL h
   have j20:∀u20,y20=.inr u20→Run iX 0 (ey (c_1,i_2) r) (.code qv::.code nm::[]) (sT 114 [(1,I i_2),(2,.hp 1 0 [] 2 0 0),(5,.hp 2 0 [] 12 0 0),(60,B u20)] [⟨0,2,[ak c_1]⟩,⟨0,12,[aG e3]⟩] 3):=by
    intro u20 hu
    replace h:=hy202 u20 hu
    exact rf [1,2,5,60] [1,2] (j18 _ (al h) :)
   have r20:∀r',y20=.inl r'→∀st,ey (c_1,i_2) r' st→(ey (c_1,i_2) r) st:=fun r' e st hq=>r18 r' (hy201 r' e) st hq
   replace h:=hy20
   refine sp 32 h rfl ?_ ?_<;>intro h
   ·refine cq 29 [60] [B true] 929 ?_
    exact rf [1,2,5,60] [1,113] (j20 _ (al h) :)
   ·refine cq 4 [34,36] [I e3.Party,I (ac ((len c_1.Parties) - 1))] 545 ?_
    obtain⟨r21,hr21,h⟩:=bS h
    refine oy 561 (B r21) rfl (cP (ia hr21)) ?_
    refine cq 3 [40] [B (!r21)] 609 ?_
    obtain⟨y22,hy22,hy221,hy222⟩:=bL h
    have j22:∀u22,y22=.inr u22→Run iX 0 (ey (c_1,i_2) r) (.code qv::.code nm::[]) (sT 114 [(1,I i_2),(2,.hp 1 0 [] 2 0 0),(5,.hp 2 0 [] 12 0 0),(60,B u22)] [⟨0,2,[ak c_1]⟩,⟨0,12,[aG e3]⟩] 3):=by
     intro u22 hu
     replace h:=hy222 u22 hu
     exact rf [1,2,5,60] [1,2] (j20 _ (al h) :)
    have r22:∀r',y22=.inl r'→∀st,ey (c_1,i_2) r' st→(ey (c_1,i_2) r) st:=fun r' e st hq=>r20 r' (hy221 r' e) st hq
    replace h:=hy22
    refine sp 40 h rfl ?_ ?_<;>intro h
    ·refine cq 21 [60] [B true] 929 ?_
     exact rf [1,2,5,60] [1,113] (j22 _ (al h) :)
    ·refine cq 4 [42,44] [I e3.Other,I (ac ((len c_1.Parties) - 1))] 673 ?_
     obtain⟨r23,hr23,h⟩:=bS h
     refine oy 689 (B r23) rfl (cP (ia hr23)) ?_
     refine cq 3 [48] [B (!r23)] 737 ?_
     obtain⟨y24,hy24,hy241,hy242⟩:=bL h
     have j24:∀u24,y24=.inr u24→Run iX 0 (ey (c_1,i_2) r) (.code qv::.code nm::[]) (sT 114 [(1,I i_2),(2,.hp 1 0 [] 2 0 0),(5,.hp 2 0 [] 12 0 0),(60,B u24)] [⟨0,2,[ak c_1]⟩,⟨0,12,[aG e3]⟩] 3):=by
      intro u24 hu
      replace h:=hy242 u24 hu
      exact rf [1,2,5,60] [1,2] (j22 _ (al h) :)
     have r24:∀r',y24=.inl r'→∀st,ey (c_1,i_2) r' st→(ey (c_1,i_2) r) st:=fun r' e st hq=>r22 r' (hy241 r' e) st hq
     replace h:=hy24
     refine sp 48 h rfl ?_ ?_<;>intro h
     ·refine cq 13 [60] [B true] 929 ?_
      exact rf [1,2,5,60] [1,113] (j24 _ (al h) :)
     ·refine cq 7 [55] [B (e3.Party==e3.Other)] 849 ?_
      obtain⟨y25,hy25,hy251,hy252⟩:=bL h
      have j25:∀u25,y25=.inr u25→Run iX 0 (ey (c_1,i_2) r) (.code qv::.code nm::[]) (sT 114 [(1,I i_2),(2,.hp 1 0 [] 2 0 0),(5,.hp 2 0 [] 12 0 0),(60,B u25)] [⟨0,2,[ak c_1]⟩,⟨0,12,[aG e3]⟩] 3):=by
       intro u25 hu
       replace h:=hy252 u25 hu
       exact rf [1,2,5,60] [1,2] (j24 _ (al h) :)
      have r25:∀r',y25=.inl r'→∀st,ey (c_1,i_2) r' st→(ey (c_1,i_2) r) st:=fun r' e st hq=>r24 r' (hy251 r' e) st hq
      replace h:=hy25
      refine sp 55 h rfl ?_ ?_<;>intro h
      ·refine cq 6 [60] [B true] 929 ?_
       exact rf [1,2,5,60] [1,113] (j25 _ (al h) :)
      ·refine cq 2 [57] [ao e3.When] 881 ?_
       obtain⟨r26,hr26,h⟩:=bS h
       refine oy 897 (B r26) rfl (cP (ZP hr26)) ?_
       refine cq 3 [60] [B (!r26)] 929 ?_
       exact rf [1,2,5,60] [1,113] (j25 _ (al h) :)
theorem RQ {G:cD}:ct G 57 Bm:=gT 2 0 (bb wh (bb jQ (bb GZ (bb RC bP)))) cJ Tryz.func57 (fun a r h=>UT a.1 a.2 r h)
def D9:((List ae)×ae)→List V:=cA (kM 1 str) (oA str)
def Ea (r:(List ae)):V×List V:=(.usl 1 (r.map str),[.dead])
noncomputable def uA :=bA [true,false] D9 Ea fun x=>wm x.1 x.2
theorem JJ {l_8:List ae}{s_9:ae}{r}(h:wm l_8 s_9=some r):uA.F (D9 (l_8,s_9))=some (Ea r):=aV (aY (eL bT) (aW bT)) h
noncomputable def qI :=aQ Tryz.f86
noncomputable def wn :=cI []
def tH (x:(List ae)×ae)(r:(List ae)):St→Prop:=QF wn Tryz.f86 [true,false] (D9 x) (Ea r)
theorem Mx (l_8:List ae)(s_9:ae):cf wn 1 (tH (l_8,s_9)) (cL (cL (cL (cR (cR qI))))) 0 (tI l_8 s_9) (fun u=>(sO 45 [(0,.hs 2 0 [] 1 0 (u.2.2.map str).length),(1,str u.1),(5,I u.2.1)] [none,some ⟨0,1,u.2.2.map str⟩] 3)) fun x3=>(sO 45 [(0,.hs 2 0 [] 1 0 (l_8.map str).length),(1,str s_9),(5,I x3)] [none,some ⟨0,1,l_8.map str⟩] 3):=eu (zc l_8 s_9) fun {Q K} hK self ih x3 y h hr hn=>by
 unfold ln at h
 refine cq 5 [6,7] [I x3,.hs 2 0 [] 1 0 (l_8.map str).length] 35 ?_
 refine oq 51 (I (len l_8)) rfl (cg rfl rfl rfl (kd (f:=str) (xs:=l_8) rfl rfl)) ?_
 refine cq 2 [10] [B (decide (x3<(len l_8)))] 83 ?_
 obtain⟨y4,hy4,hy41,hy42⟩:=bL h
 have j4:∀u4,y4=.inr u4→Run wn 1 Q (.code (cR (cL (cL (cL (cL (cR (cR qI)))))))::.code (cR (cL (cL (cL (cR (cR qI))))))::.lp (cL (cL (cL (cR (cR qI)))))::.blk 0::K) (sO 45 [(0,.hs 2 0 [] 1 0 (l_8.map str).length),(1,str s_9),(5,I x3),(17,B u4)] [none,some ⟨0,1,l_8.map str⟩] 3):=by
  intro u4 hu
  replace h:=hy42 u4 hu
  refine sq h ?_ ?_<;>intro h
  ·refine aq 1 ?_
   refine cq 7 [5] [I (ac (x3+1))] 51 ?_
   refine dm ?_
   exact rg [0,1,5] [52,2] (ih _ _ h hr hn :)
  ·refine aq 1 ?_
   exact rg [0,1,5] [4,2] (hn _ (al h) :) (hk:=hK)
 have r4:∀r',y4=.inl r'→∀st,tH (l_8,s_9) r' st→Q st:=fun r' e st hq=>hr r' (hy41 r' e) st hq
 replace h:=hy4
 refine sp 10 h rfl ?_ ?_<;>intro h
 ·refine cq 2 [11,12] [.hs 2 0 [] 1 0 (l_8.map str).length,I x3] 115 ?_
  obtain⟨e5,he5,h⟩:=bS h
  refine oy 131 (.hp 2 0 [] 1 (0+Int.toNat x3) 0) rfl (ah rfl rfl rfl (aL (f:=str) (xs:=l_8) rfl rfl rfl he5)) ?_
  refine oy 147 (str e5) rfl (bm rfl (bZ (path:=[]) rfl rfl rfl aw (aB (f:=str) (xs:=l_8) he5) rfl rfl rfl)) ?_
  refine cq 4 [17] [B (Op.bytesLess e5 s_9)] 195 ?_
  exact rg [0,1,5,17] [196,2] (j4 _ (al h) :)
 ·refine cq 8 [17] [B false] 195 ?_
  exact rg [0,1,5,17] [196,2] (j4 _ (al h) :)
theorem UO (l_8:List ae)(s_9:ae)(r:(List ae))(h:wm l_8 s_9=some r):bN wn Tryz.f86 [true,false] 1 (D9 (l_8,s_9)) (Ea r):=by
 show Run _ _ (tH (l_8,s_9) r) [.code qI] _
 refine rI 45 [(0,.hs 1 0 [] 1 0 (l_8.map str).length),(1,str s_9)] [(1,some ⟨0,1,l_8.map str⟩)] 2 ?_
 unfold wm at h
 refine cq 10 [5] [I (0)] 34 ?_
 obtain⟨y6,hy6,hy61,hy62⟩:=bJ h
 refine bO rfl ?_
 refine rg [0,1,5] [35,1] (Mx l_8 s_9 rfl 0 _ hy6 (fun r' e st hq=>by rw[hy61 r' e] at hq;exact hq) fun u6 hu=>?_)
 replace h:=hy62 u6 hu
 refine cq 5 [20,21] [I u6.2.1,.hs 2 0 [] 1 0 (u6.2.2.map str).length] 35 ?_
 refine oq 51 (I (len u6.2.2)) rfl (cg rfl rfl rfl (kd (f:=str) (xs:=u6.2.2) rfl rfl)) ?_
 refine cq 2 [24] [B (decide (u6.2.1<(len u6.2.2)))] 83 ?_
 obtain⟨y7,hy7,hy71,hy72⟩:=bJ h
 have j7:∀u7,y7=.inr u7→Run wn 1 (tH (l_8,s_9) r) (.code (cR (cL (cR (cR (cR qI)))))::.code (cR (cR (cR (cR qI))))::[]) (sO 45 [(0,.hs 2 0 [] 1 0 (u6.2.2.map str).length),(1,str u6.1),(5,I u6.2.1),(31,B u7)] [none,some ⟨0,1,u6.2.2.map str⟩] 3):=by
  intro u7 hu
  replace h:=hy72 u7 hu
  refine sq h ?_ ?_<;>intro h
  ·refine cq 5 [4] [.hs 2 0 [] 1 0 (u6.2.2.map str).length] 35 ?_
   obtain rfl:=sI h
   exact bR rfl ⟨_,fin (vs:=[.hs 2 0 [] 1 0 (u6.2.2.map str).length]) rfl (d6 (gt rfl (eg rfl rfl)) cX) rfl (fy rfl (kJ rfl) (bH d4)),oZ dX⟩
  ·refine aq 1 ?_
   refine aq 1 ?_
   refine cn [0,0,0,6,15,0,32,127,0,0,768,2047,4095] rfl (by decide +kernel) ?_
   refine dq [] [] (.hs 3 0 [] 1 0 0) rfl (ec rfl (jh (f:=I) (xs:=[]) (z:=str ([])) (es:=[]) (ws:=[]) rfl rfl rfl (by decide) rfl (dt rfl) rfl)) ?_
   refine dk 2 [35,34] [I u6.2.1,.hs 2 0 [] 1 0 (u6.2.2.map str).length] ?_
   obtain⟨s8,hs8,h⟩:=bS h
   refine dq [2] [] (.hs 2 0 [] 1 (0+Int.toNat (0)) (Int.toNat u6.2.1 - Int.toNat (0))) rfl (gI rfl rfl rfl rfl (lO (f:=str) (xs:=u6.2.2) rfl rfl rfl rfl rfl hs8)) ?_
   obtain⟨p9,hp9,h⟩:=bS h
   obtain⟨a10,ha10,h⟩:=bS h
   refine dq [3,2] [3] (.hs 67 0 [] 1 0 (a10.map str).length) rfl (jq rfl rfl rfl rfl rfl (mu (path:=[]) (es0:=[]) (f:=str) (xs:=([]:List ae)) (ys:=p9) rfl rfl (yt (path:=[]) (f:=str) (xs:=u6.2.2) rfl rfl aw hp9 mU) rfl rfl rfl rfl rfl (by decide) lR ha10 rfl o9)) ?_ (vm rfl (uI (path:=[]) (f:=str) (xs:=u6.2.2) rfl rfl aw mU rfl))
   refine dk 1 [38] [str u6.1] ?_
   refine dq [] [] (.hs 99 0 [] 1 0 1) rfl (ec rfl (jh (f:=I) (xs:=[]) (z:=str ([])) (es:=[str u6.1]) (ws:=[str u6.1]) rfl rfl rfl (by decide) rfl (dt rfl) rfl)) ?_
   obtain⟨a11,ha11,h⟩:=bS h
   refine dq [67,99] [67] (.hs 115 0 [] 1 0 (a11.map str).length) rfl (jq rfl rfl rfl rfl rfl (mu (path:=[]) (f:=str) (xs:=a10) (ys:=[u6.1]) rfl rfl (qB rfl rfl rfl) rfl rfl rfl aw rfl (by decide) lR ha11 rfl o9)) ?_ (vm rfl (uI (path:=[]) (f:=str) (xs:=[u6.1]) rfl rfl aw mU rfl))
   refine dk 2 [42,41] [I u6.2.1,.hs 2 0 [] 1 0 (u6.2.2.map str).length] ?_
   obtain⟨s12,hs12,h⟩:=bS h
   refine dq [2] [] (.hs 2 0 [] 1 (0+Int.toNat u6.2.1) (Int.toNat (len u6.2.2) - Int.toNat u6.2.1)) rfl (gI rfl rfl rfl rfl (lO (f:=str) (xs:=u6.2.2) rfl rfl rfl rfl (Gx rfl) hs12)) ?_
   obtain⟨p13,hp13,h⟩:=bS h
   obtain⟨a14,ha14,h⟩:=bS h
   refine dq [115,2] [115] (.hs 179 0 [] 1 0 (a14.map str).length) rfl (jq rfl rfl rfl rfl rfl (mu (path:=[]) (f:=str) (xs:=a11) (ys:=p13) rfl rfl (yt (path:=[]) (f:=str) (xs:=u6.2.2) rfl rfl aw hp13 mU) rfl rfl rfl aw rfl (by decide) lR ha14 rfl o9)) ?_ (vm rfl (uI (path:=[]) (f:=str) (xs:=u6.2.2) rfl rfl aw mU rfl))
   refine dk 1 [4] [.hs 179 0 [] 1 0 (a14.map str).length] ?_
   refine de 211 rfl rfl ?_
   obtain rfl:=sI h
   exact bR rfl ⟨_,fin (vs:=[.hs 179 0 [] 1 0 (a14.map str).length]) rfl (d6 (gt rfl (eg rfl rfl)) cX) rfl (fy rfl (kJ rfl) (bH d4)),oZ dX⟩
 have r7:∀r',y7=.inl r'→∀st,tH (l_8,s_9) r' st→(tH (l_8,s_9) r) st:=fun r' e st hq=>by rw[hy71 r' e] at hq;exact hq
 replace h:=hy7
 refine sp 24 h rfl ?_ ?_<;>intro h
 ·refine cq 2 [25,26] [.hs 2 0 [] 1 0 (u6.2.2.map str).length,I u6.2.1] 115 ?_
  obtain⟨e15,he15,h⟩:=bS h
  refine oy 131 (.hp 2 0 [] 1 (0+Int.toNat u6.2.1) 0) rfl (ah rfl rfl rfl (aL (f:=str) (xs:=u6.2.2) rfl rfl rfl he15)) ?_
  refine oy 147 (str e15) rfl (bm rfl (bZ (path:=[]) rfl rfl rfl aw (aB (f:=str) (xs:=u6.2.2) he15) rfl rfl rfl)) ?_
  refine cq 4 [31] [B (e15==u6.1)] 195 ?_
  exact rg [0,1,5,31] [196,2] (j7 _ (al h) :)
 ·refine cq 8 [31] [B false] 195 ?_
  exact rg [0,1,5,31] [196,2] (j7 _ (al h) :)
theorem GY {G:cD}:ct G 86 uA:=gT 2 1 bP cJ Tryz.func86 (fun a r h=>UO a.1 a.2 r h)
def wi:((List ae)×Condition)→List V:=cA (kM 1 str) (oA bB)
def wj (r:(List ae)):V×List V:=(.usl 1 (r.map str),[.dead])
noncomputable def wl (cz:((List ae)×Condition)→Option (List ae)):Ent:=bA [true,false] wi wj cz
theorem Nv (cz:((List ae)×Condition)→Option (List ae)){x}{r}(h:cz x=some r):(wl cz).F (wi x)=some (wj r):=aV (aY (eL bT) (aW dH)) h
noncomputable def Bi :=wl (aP lm)
theorem RH {l_4:List ae}{c_5:Condition}{r}(h:JH l_4 c_5=some r):Bi.F (wi (l_4,c_5))=some (wj r):=Nv (aP lm) h
noncomputable def RJ :=aQ Tryz.f59
noncomputable def JI (cz:((List ae)×Condition)→Option (List ae)):Env:=cI [(86,uA),(59,(wl cz))]
def RI (cz:((List ae)×Condition)→Option (List ae))(x:(List ae)×Condition)(r:(List ae)):St→Prop:=QF (JI cz) Tryz.f59 [true,false] (wi x) (wj r)
theorem Mw (cz:((List ae)×Condition)→Option (List ae))(l_4:List ae)(c_5:Condition):cf (JI cz) 1 (RI cz (l_4,c_5)) (cL (cL (cR (cL (cR (cR RJ)))))) 0 (lW cz l_4 c_5) (fun u=>(sO 28 [(0,.hs 2 0 [] 1 0 (u.map str).length)] [none,some ⟨0,1,u.map str⟩] 3)) fun x4=>(sO 28 [(0,.hs 2 0 [] 1 0 (x4.2.map str).length),(3,.hp 3 0 [] 4 0 0),(5,I x4.1)] [none,some ⟨0,1,x4.2.map str⟩,some ⟨0,4,[ao c_5]⟩] 4):=eu (zb cz l_4 c_5) fun {Q K} hK self ih x4 y h hr hn=>by
 unfold jS at h
 refine cq 6 [13,15] [I x4.1,.isl false (c_5.Parts.map aF)] 52 ?_
 refine oq 68 (I (len c_5.Parts)) rfl (cg rfl rfl rfl (du rfl)) ?_
 refine cq 2 [17] [B (decide (x4.1<(len c_5.Parts)))] 84 ?_
 refine sq h ?_ ?_<;>intro h
 ·refine aq 1 ?_
  refine cq 7 [20,22,23] [.hs 2 0 [] 1 0 (x4.2.map str).length,.isl false (c_5.Parts.map aF),I x4.1] 148 ?_
  obtain⟨e5,he5,h⟩:=bS h
  refine oq 164 (.iptr (ao e5) 0) rfl (ah rfl rfl rfl (cp rfl rfl (dC e5) rfl he5)) ?_
  refine cq 1 [25] [ao e5] 180 ?_
  obtain⟨r6,hr6,h⟩:=bS h
  refine oq 196 (.hs 180 0 [] 1 0 (r6.map str).length) rfl (bC rfl rfl (bW rfl rfl rfl (gm (ge rfl (eP (path:=[]) rfl rfl aw rfl)) (ba (bl rfl) cS)) (Nv cz hr6) (.inr rfl) (fi rfl rfl rfl kB dE) rfl rfl rfl)) ?_
  refine cq 8 [0,5] [.hs 180 0 [] 1 0 (r6.map str).length,I (ac (x4.1+1))] 260 ?_
  refine dm ?_
  exact rg [0,3,5] [261,180,3] (ih _ _ h hr hn :)
 ·refine aq 1 ?_
  exact rg [0] [85,2] (hn _ (al h) :) (hk:=hK)
theorem UN (cz:((List ae)×Condition)→Option (List ae))(l_4:List ae)(c_5:Condition)(r:(List ae))(h:tG cz l_4 c_5=some r):bN (JI cz) Tryz.f59 [true,false] 1 (wi (l_4,c_5)) (wj r):=by
 show Run _ _ (RI cz (l_4,c_5) r) [.code RJ] _
 refine rI 28 [(0,.hs 1 0 [] 1 0 (l_4.map str).length),(1,ao c_5)] [(1,some ⟨0,1,l_4.map str⟩)] 2 ?_
 unfold tG at h
 refine ck 12 [3,8] [] [2] [] [.hp 2 0 [] 4 0 0,B (c_5.Op==2)] [some ⟨0,4,[ao c_5]⟩] 82 (by kernel_rfl) ?_
 refine sq h ?_ ?_<;>intro h
 ·refine cq 5 [9,11] [.hs 1 0 [] 1 0 (l_4.map str).length,str c_5.Name] 130 ?_
  obtain⟨r3,hr3,h⟩:=bS h
  refine oq 146 (.hs 130 0 [] 1 0 (r3.map str).length) rfl (bC rfl rfl (bW rfl rfl rfl (gm (ge rfl (eP (path:=[]) rfl rfl aw rfl)) (ba (bl rfl) cS)) (JJ hr3) (.inr rfl) (fi rfl rfl rfl kB dE) rfl rfl rfl)) ?_
  refine cq 2 [4] [.hs 130 0 [] 1 0 (r3.map str).length] 162 ?_
  obtain rfl:=sI h
  exact bR rfl ⟨_,fin (vs:=[.hs 130 0 [] 1 0 (r3.map str).length]) rfl (d6 (gt rfl (eg rfl rfl)) cX) rfl (fy rfl (kJ rfl) (bH d4)),oZ dX⟩
 ·refine aq 1 ?_
  refine cq 6 [5] [I (0)] 98 ?_
  obtain⟨y7,hy7,hy71,hy72⟩:=bJ h
  refine bO rfl ?_
  refine rg [0,3,5] [99,1,2] (Mw cz l_4 c_5 rfl (0,l_4) _ hy7 (fun r' e st hq=>by rw[hy71 r' e] at hq;exact hq) fun u7 hu=>?_)
  replace h:=hy72 u7 hu
  refine cq 5 [4] [.hs 2 0 [] 1 0 (u7.map str).length] 35 ?_
  obtain rfl:=sI h
  exact bR rfl ⟨_,fin (vs:=[.hs 2 0 [] 1 0 (u7.map str).length]) rfl (d6 (gt rfl (eg rfl rfl)) cX) rfl (fy rfl (kJ rfl) (bH d4)),oZ dX⟩
theorem RK {G:cD}:ct G 59 Bi:=jt fun cz g_Ffdg=>gT 2 1 (bb GY (bb g_Ffdg bP)) cJ Tryz.func59 (fun a r h=>UN cz a.1 a.2 r h)
def En:Contract→List V:=oA bn
def Eo (r:(List ae)):V×List V:=(.usl 1 (r.map str),[])
noncomputable def Bp :=bA [false] En Eo fun x=>uD x
theorem ZT {c_1:Contract}{r}(h:uD c_1=some r):Bp.F (En c_1)=some (Eo r):=aV (aW co) h
noncomputable def RV :=aQ Tryz.f58
noncomputable def JP :=cI [(86,uA),(59,Bi)]
def RU (x:Contract)(r:(List ae)):St→Prop:=QF JP Tryz.f58 [false] (En x) (Eo r)
theorem MB (c_1:Contract):cf JP 0 (RU c_1) (cL (cL (cR (cL (cR (cR RV)))))) 0 (np c_1) (fun u=>(sT 29 [(3,.hs 1 0 [] 1 0 (u.map str).length)] [⟨0,1,u.map str⟩] 2)) fun x2=>(sT 29 [(1,.hp 1 0 [] 2 0 0),(3,.hs 2 0 [] 1 0 (x2.2.map str).length),(4,I x2.1)] [⟨0,2,[ak c_1]⟩,⟨0,1,x2.2.map str⟩] 3):=eu (zg c_1) fun {Q K} hK self ih x2 y h hr hn=>by
 unfold ls at h
 refine cq 6 [6,8] [I x2.1,.isl false (c_1.Clauses.map aA)] 51 ?_
 refine oq 67 (I (len c_1.Clauses)) rfl (cg rfl rfl rfl (du rfl)) ?_
 refine cq 2 [10] [B (decide (x2.1<(len c_1.Clauses)))] 83 ?_
 refine sq h ?_ ?_<;>intro h
 ·refine aq 1 ?_
  refine aq 2 ?_
  refine cn [0,0,2,0,14,30,62,127,0,256,0,1792,3840,7936,16383,32767] rfl (by decide +kernel) ?_
  refine dk 1 [13] [.hs 2 0 [] 1 0 (x2.2.map str).length] ?_
  refine dq [1] [] (.hp 1 0 [] 2 0 1) rfl (cW rfl rfl rfl) ?_
  refine dq [1] [] (.isl false (c_1.Clauses.map aA)) rfl (bm rfl rfl) ?_
  refine dk 1 [16] [I x2.1] ?_
  obtain⟨e3,he3,h⟩:=bS h
  refine dq [] [] (.iptr (aG e3) 0) rfl (ah rfl rfl rfl (cp rfl rfl rfl rfl he3)) ?_
  refine dq [] [] (.iptr (aG e3) 3) rfl (cW rfl rfl rfl) ?_
  refine dq [] [] (str e3.Action) rfl (bm rfl rfl) ?_
  obtain⟨r4,hr4,h⟩:=bS h
  refine dq [2] [2] (.hs 195 0 [] 1 0 (r4.map str).length) rfl (bC rfl rfl (bW rfl rfl rfl (gm (ge rfl (eP (path:=[]) rfl rfl aw rfl)) (ba (bl rfl) cS)) (JJ hr4) (.inr rfl) (fi rfl rfl rfl kB dE) rfl rfl rfl)) ?_ (dK rfl rfl rfl rfl (gm (ge rfl (eP (path:=[]) rfl rfl aw rfl)) (ba (bl rfl) cS)) (JJ hr4) (.inr rfl) rfl)
  refine dq [1] [] (.hp 1 0 [] 2 0 1) rfl (cW rfl rfl rfl) ?_
  refine dq [1] [] (.isl false (c_1.Clauses.map aA)) rfl (bm rfl rfl) ?_
  refine dk 1 [23] [I x2.1] ?_
  obtain⟨e5,he5,h⟩:=bS h
  refine dq [] [] (.iptr (aG e5) 0) rfl (ah rfl rfl rfl (cp rfl rfl rfl rfl he5)) ?_
  refine dq [] [] (.iptr (aG e5) 6) rfl (cW rfl rfl rfl) ?_
  refine dq [] [] (ao e5.When) rfl (bm rfl rfl) ?_
  obtain⟨r6,hr6,h⟩:=bS h
  refine dq [195] [195] (.hs 307 0 [] 1 0 (r6.map str).length) rfl (bC rfl rfl (bW rfl rfl rfl (gm (ge rfl (eP (path:=[]) rfl rfl aw rfl)) (ba (bl rfl) cS)) (RH hr6) (.inr rfl) (fi rfl rfl rfl kB dE) rfl rfl rfl)) ?_ (dK rfl rfl rfl rfl (gm (ge rfl (eP (path:=[]) rfl rfl aw rfl)) (ba (bl rfl) cS)) (RH hr6) (.inr rfl) rfl)
  refine dk 1 [3] [.hs 307 0 [] 1 0 (r6.map str).length] ?_
  refine de 339 rfl rfl ?_
  refine cq 6 [4] [I (ac (x2.1+1))] 387 ?_
  refine dm ?_
  exact rf [1,3,4] [1,307] (ih _ _ h hr hn :)
 ·refine aq 1 ?_
  exact rf [3] [2] (hn _ (al h) :) (hk:=hK)
theorem UW (c_1:Contract)(r:(List ae))(h:uD c_1=some r):bN JP Tryz.f58 [false] 0 (En c_1) (Eo r):=by
 show Run _ _ (RU c_1 r) [.code RV] _
 refine rI 29 [(0,ak c_1)] [] 1 ?_
 unfold uD at h
 refine ck 7 [1] [] [1] [] [.hp 1 0 [] 2 0 0] [some ⟨0,2,[ak c_1]⟩] 33 (by kernel_rfl) ?_
 refine oq 49 (.hs 33 0 [] 1 0 0) rfl (ec rfl (jh (f:=I) (xs:=[]) (z:=str ([])) (es:=[]) (ws:=[]) rfl rfl rfl (by decide) rfl (dt rfl) rfl)) ?_
 refine cq 8 [3,4] [.hs 33 0 [] 1 0 0,I (0)] 81 ?_
 obtain⟨y7,hy7,hy71,hy72⟩:=bJ h
 refine bO rfl ?_
 refine rf [1,3,4] [1,33] (MB c_1 rfl (0,[]) _ hy7 (fun r' e st hq=>by rw[hy71 r' e] at hq;exact hq) fun u7 hu=>?_)
 replace h:=hy72 u7 hu
 refine cq 5 [2] [.hs 1 0 [] 1 0 (u7.map str).length] 34 ?_
 obtain rfl:=sI h
 exact bR rfl ⟨_,fin (vs:=[.hs 1 0 [] 1 0 (u7.map str).length]) rfl (d6 (gt rfl (eg rfl rfl)) cX) rfl (bH d4),dX⟩
theorem RX {G:cD}:ct G 58 Bp:=gT 1 0 (bb GY (bb RK bP)) cJ Tryz.func58 (fun a r h=>UW a r h)
def Ej:Contract→List V:=oA bn
def Ek (r:Bool):V×List V:=(B r,[])
noncomputable def Bo :=bA [false] Ej Ek fun x=>Bn x
theorem ZS {c_1:Contract}{r}(h:Bn c_1=some r):Bo.F (Ej c_1)=some (Ek r):=aV (aW co) h
noncomputable def El :=aQ Tryz.f28
noncomputable abbrev xL :=cL (cL (cR (cL (cR (cR El)))))
noncomputable def ww :=cI [(42,iD),(56,uC),(57,Bm),(58,Bp),(55,Bq)]
def tN (x:Contract)(r:Bool):St→Prop:=QF ww Tryz.f28 [false] (Ej x) (Ek r)
theorem MA (c_1:Contract):cf ww 0 (tN c_1) xL 0 (lY c_1) (fun u=>(sT 41 [(1,.hp 1 0 [] 2 0 0)] [⟨0,2,[ak c_1]⟩] 2)) fun x4=>(sT 41 [(1,.hp 1 0 [] 2 0 0),(3,I x4)] [⟨0,2,[ak c_1]⟩] 2):=eu (zf c_1) fun {Q K} hK self ih x4 y h hr hn=>by
 unfold lr at h
 refine cq 6 [14,16] [I x4,.isl false (c_1.Clauses.map aA)] 50 ?_
 refine oq 66 (I (len c_1.Clauses)) rfl (cg rfl rfl rfl (du rfl)) ?_
 refine cq 2 [18] [B (decide (x4<(len c_1.Clauses)))] 82 ?_
 refine sq h ?_ ?_<;>intro h
 ·refine aq 1 ?_
  refine aq 3 ?_
  refine cn [0,0,2,0,14,30,62,127,0,511,1023,2047,2047,8191,16383,32767] rfl (by decide +kernel) ?_
  refine dq [1] [] (ak c_1) rfl (bm rfl rfl) ?_
  refine dq [1] [] (.hp 1 0 [] 2 0 1) rfl (cW rfl rfl rfl) ?_
  refine dq [1] [] (.isl false (c_1.Clauses.map aA)) rfl (bm rfl rfl) ?_
  refine dk 1 [24] [I x4] ?_
  obtain⟨e5,he5,h⟩:=bS h
  refine dq [] [] (.iptr (aG e5) 0) rfl (ah rfl rfl rfl (cp rfl rfl rfl rfl he5)) ?_
  refine dq [] [] (.iptr (aG e5) 0) rfl (cW rfl rfl rfl) ?_
  refine dq [] [] (str e5.Id) rfl (bm rfl rfl) ?_
  obtain⟨r6,hr6,h⟩:=bS h
  refine dq [] [] (I r6) rfl (cP (JO hr6)) ?_ (dK rfl rfl rfl rfl (ba (bl rfl) (ba (bl rfl) cS)) (JO hr6) (.inr rfl) rfl)
  refine dk 3 [31,30,29] [B (r6 != x4),B (r6 != x4),I x4] ?_
  obtain⟨y7,hy7,hy71,hy72⟩:=bL h
  have j7:∀u7,y7=.inr u7→Run ww 0 Q (.code (cR (cL (cL (cR xL))))::.blk 1::.code (cR (cR xL))::.lp xL::.blk 0::K) (sT 41 [(1,.hp 1 0 [] 2 0 0),(3,I x4),(36,B u7)] [⟨0,2,[ak c_1]⟩] 2):=by
   intro u7 hu
   replace h:=hy72 u7 hu
   refine sq h ?_ ?_<;>intro h
   ·refine cq 4 [2] [B false] 18 ?_
    exact bR rfl (hr _ (al h) _ (qp [B false]))
   ·refine aq 1 ?_
    refine cq 6 [3] [I (ac (x4+1))] 50 ?_
    refine dm ?_
    exact rf [1,3] [1] (ih _ _ h hr hn :)
  have r7:∀r',y7=.inl r'→∀st,tN c_1 r' st→Q st:=fun r' e st hq=>hr r' (hy71 r' e) st hq
  replace h:=hy7
  refine sp 31 h rfl ?_ ?_<;>intro h
  ·refine dk 5 [36,35,34,33,32] [B true,.und,.und,.und,.und] ?_
   refine de 338 rfl rfl ?_
   exact rf [1,3,36] [1] (j7 _ (al h) :)
  ·refine dy [1] [] (ak c_1) rfl (bm rfl rfl) ?_
   refine dk 1 [33] [I x4] ?_
   obtain⟨r8,hr8,h⟩:=bS h
   refine dy [] [] (B r8) rfl (cP (RP hr8)) ?_ (dK rfl rfl rfl rfl (ba (bl rfl) (ba (bl rfl) cS)) (RP hr8) (.inr rfl) rfl)
   refine dk 2 [36,35] [B (!r8),B (!r8)] ?_
   refine de 338 rfl rfl ?_
   exact rf [1,3,36] [1] (j7 _ (al h) :)
 ·refine aq 1 ?_
  exact rf [1] [1] (hn _ (al h) :) (hk:=hK)
theorem UV (c_1:Contract)(r:Bool)(h:Bn c_1=some r):bN ww Tryz.f28 [false] 0 (Ej c_1) (Ek r):=by
 show Run _ _ (tN c_1 r) [.code El] _
 refine rI 41 [(0,ak c_1)] [] 1 ?_
 unfold Bn at h
 refine ck 10 [1,5] [] [1] [] [.hp 1 0 [] 2 0 0,.isl false (c_1.Clauses.map aA)] [some ⟨0,2,[ak c_1]⟩] 65 (by kernel_rfl) ?_
 refine oq 81 (I (len c_1.Clauses)) rfl (cg rfl rfl rfl (du rfl)) ?_
 obtain⟨r2,hr2,h⟩:=bS h
 refine oq 97 (B r2) rfl (cP (ia hr2)) ?_
 refine cq 2 [9] [B (!r2)] 129 ?_
 obtain⟨y3,hy3,hy31,hy32⟩:=bJ h
 have j3:∀u3,y3=.inr u3→Run ww 0 (tN c_1 r) (.code (cR (cL (cR El)))::.code (cR (cR El))::[]) (sT 41 [(1,.hp 1 0 [] 2 0 0),(13,B u3)] [⟨0,2,[ak c_1]⟩] 2):=by
  intro u3 hu
  replace h:=hy32 u3 hu
  refine sq h ?_ ?_<;>intro h
  ·refine cq 4 [2] [B false] 18 ?_
   obtain rfl:=sI h
   exact rP [B false]
  ·refine aq 1 ?_
   refine cq 6 [3] [I (0)] 18 ?_
   obtain⟨y9,hy9,hy91,hy92⟩:=bJ h
   refine bO rfl ?_
   refine rf [1,3] [1] (MA c_1 rfl 0 _ hy9 (fun r' e st hq=>by rw[hy91 r' e] at hq;exact hq) fun u9 hu=>?_)
   replace h:=hy92 u9 hu
   refine cq 3 [37] [ak c_1] 18 ?_
   obtain⟨r10,hr10,h⟩:=bS h
   refine oq 34 (.hs 18 0 [] 1 0 (r10.map str).length) rfl (cP (ZT hr10)) ?_
   refine oq 50 (I (len r10)) rfl (cg rfl rfl rfl (kd (f:=str) (xs:=r10) rfl rfl)) ?_
   refine cq 3 [2] [B (decide ((len r10)≤16))] 82 ?_
   obtain rfl:=sI h
   exact rP [B (decide ((len r10)≤16))]
 have r3:∀r',y3=.inl r'→∀st,tN c_1 r' st→(tN c_1 r) st:=fun r' e st hq=>by rw[hy31 r' e] at hq;exact hq
 replace h:=hy3
 refine sp 9 h rfl ?_ ?_<;>intro h
 ·refine cq 5 [13] [B true] 193 ?_
  exact rf [1,13] [1] (j3 _ (al h) :)
 ·refine cq 1 [10] [ak c_1] 145 ?_
  obtain⟨r11,hr11,h⟩:=bS h
  refine oy 161 (B r11) rfl (cP (ZU hr11)) ?_
  refine cq 3 [13] [B (!r11)] 193 ?_
  exact rf [1,13] [1] (j3 _ (al h) :)
theorem RT {G:cD}:ct G 28 Bo:=gT 1 0 (bb jQ (bb GZ (bb RQ (bb RX (bb RY bP))))) cJ Tryz.func28 (fun a r h=>UV a r h)
def Ev:(Event×Event)→List V:=cA aa (oA aa)
def Ex (r:Int):V×List V:=(I r,[])
noncomputable def Bs :=bA [false,false] Ev Ex fun x=>Br x.1 x.2
theorem RZ {a_1:Event}{b_2:Event}{r}(h:Br a_1 b_2=some r):Bs.F (Ev (a_1,b_2))=some (Ex r):=aV (aY ca (aW ca)) h
noncomputable def JR :=aQ Tryz.f99
noncomputable def Ew :=cI []
def qJ (x:Event×Event)(r:Int):St→Prop:=QF Ew Tryz.f99 [false,false] (Ev x) (Ex r)
theorem UY (a_1:Event)(b_2:Event)(r:Int)(h:Br a_1 b_2=some r):bN Ew Tryz.f99 [false,false] 0 (Ev (a_1,b_2)) (Ex r):=by
 show Run _ _ (qJ (a_1,b_2) r) [.code JR] _
 refine rI 51 [(0,aa a_1),(1,aa b_2)] [] 1 ?_
 unfold Br at h
 refine ck 7 [2,3] [] [1,17] [] [.hp 1 0 [] 4 0 0,.hp 17 0 [] 4 0 0] [some ⟨0,4,[aa a_1]⟩,some ⟨0,4,[aa b_2]⟩] 49 (by kernel_rfl) ?_
 refine cn [0,1,0,4,3,31] rfl (by decide +kernel) ?_
 refine dq [1] [] (.hp 1 0 [] 4 0 3) rfl (cW rfl rfl rfl) ?_
 refine dq [1] [] (I a_1.Amount) rfl (bm rfl rfl) ?_
 refine dq [17] [] (.hp 17 0 [] 4 0 3) rfl (cW rfl rfl rfl) ?_
 refine dq [17] [] (I b_2.Amount) rfl (bm rfl rfl) ?_
 refine dk 2 [6,5] [I b_2.Amount,I a_1.Amount] ?_
 refine de 145 rfl rfl ?_
 refine cq 11 [11] [B (a_1.Day != b_2.Day)] 241 ?_
 obtain⟨y3,hy3,hy31,hy32⟩:=bJ h
 have j3:∀u3,y3=.inr u3→Run Ew 0 (qJ (a_1,b_2) r) (.blk 0::.code (cR (cR (cR JR)))::[]) (sT 51 [(5,I u3.1),(6,I u3.2)] [] 1):=by
  intro u3 hu
  replace h:=hy32 u3 hu
  refine cq 10 [43] [B (decide (u3.1<u3.2))] 65 ?_
  refine sq h ?_ ?_<;>intro h
  ·refine cq 4 [4] [I (-1)] 81 ?_
   obtain rfl:=sI h
   exact rP [I (-1)]
  ·refine cq 7 [47] [B (decide (u3.1>u3.2))] 129 ?_
   refine sq h ?_ ?_<;>intro h
   ·refine cq 4 [4] [I (1)] 145 ?_
    obtain rfl:=sI h
    exact rP [I (1)]
   ·refine aq 1 ?_
    refine cq 5 [4] [I (0)] 145 ?_
    obtain rfl:=sI h
    exact rP [I (0)]
 have r3:∀r',y3=.inl r'→∀st,qJ (a_1,b_2) r' st→(qJ (a_1,b_2) r) st:=fun r' e st hq=>by rw[hy31 r' e] at hq;exact hq
 replace h:=hy3
 refine sq h ?_ ?_<;>intro h
 ·refine cq 11 [5,6] [I a_1.Day,I b_2.Day] 337 ?_
  exact rf [5,6] [] (j3 _ (al h) :)
 ·refine cq 9 [21] [B (a_1.Party != b_2.Party)] 337 ?_
  obtain⟨y4,hy4,hy41,hy42⟩:=bL h
  have j4:∀u4,y4=.inr u4→Run Ew 0 (qJ (a_1,b_2) r) (.blk 0::.code (cR (cR (cR JR)))::[]) (sT 51 [(5,I u4.1),(6,I u4.2)] [] 1):=by
   intro u4 hu
   replace h:=hy42 u4 hu
   exact rf [5,6] [] (j3 _ (al h) :)
  have r4:∀r',y4=.inl r'→∀st,qJ (a_1,b_2) r' st→(qJ (a_1,b_2) r) st:=fun r' e st hq=>r3 r' (hy41 r' e) st hq
  replace h:=hy4
  refine sq h ?_ ?_<;>intro h
  ·refine cq 11 [5,6] [I a_1.Party,I b_2.Party] 433 ?_
   exact rf [5,6] [] (j4 _ (al h) :)
  ·refine cq 9 [31] [B (Op.bytesLess a_1.Action b_2.Action)] 433 ?_
   refine sq h ?_ ?_<;>intro h
   ·refine cq 4 [4] [I (-1)] 449 ?_
    exact bR rfl (r4 _ (al h) _ (qp [I (-1)]))
   ·refine cq 9 [37] [B (!(Op.bytesLess a_1.Action b_2.Action||a_1.Action==b_2.Action))] 529 ?_
    refine sq h ?_ ?_<;>intro h
    ·refine cq 4 [4] [I (1)] 545 ?_
     exact bR rfl (r4 _ (al h) _ (qp [I (1)]))
    ·refine aq 1 ?_
     exact rf [5,6] [] (j4 _ (al h) :)
theorem R1 {G:cD}:ct G 99 Bs:=gT 2 0 bP cJ Tryz.func99 (fun a r h=>UY a.1 a.2 r h)
def Ey:(List Event)→List V:=oA (jX aa)
def EA (r:(List Event)):V×List V:=(.usl 4 (r.map aa),[])
noncomputable def Bt :=bA [false] Ey EA fun x=>wz x
theorem ZV {aI:List Event}{r}(h:wz aI=some r):Bt.F (Ey aI)=some (EA r):=aV (aW (ek ca)) h
noncomputable def JS :=aQ Tryz.f78
noncomputable abbrev xM :=cL (cL (cL (cR (cL (cL (cR (cL (cL (cR (cL (cR (cR JS))))))))))))
noncomputable def wA :=cI [(99,Bs)]
def Ez (x:(List Event))(r:(List Event)):St→Prop:=QF wA Tryz.f78 [false] (Ey x) (EA r)
theorem ME (aI:List Event)(x2:Int×(List Event)):cf wA 0 (Ez aI) xM 2 (qx aI x2) (fun u=>(sT 48 [(0,.isl false (aI.map aa)),(3,.hs 1 0 [] 4 0 (x2.2.map aa).length),(4,I x2.1),(5,I u)] [⟨0,4,x2.2.map aa⟩] 2)) fun x3=>(sT 48 [(0,.isl false (aI.map aa)),(3,.hs 1 0 [] 4 0 (x2.2.map aa).length),(4,I x2.1),(5,I x3)] [⟨0,4,x2.2.map aa⟩] 2):=eu (zj aI x2) fun {Q K} hK self ih x3 y h hr hn=>by
 unfold lx at h
 refine aq 2 ?_
 refine cn [0,1,3,7,7,31,63,7,7,263,903,1927,4095,8191,16383] rfl (by decide +kernel) ?_
 refine dk 3 [17,16,15] [B (decide (x3>0)),B (decide (x3>0)),I x3] ?_
 obtain⟨y4,hy4,hy41,hy42⟩:=bL h
 have j4:∀u4,y4=.inr u4→Run wA 0 Q (.code (cR (cL xM))::.code (cR xM)::.lp xM::.blk 2::K) (sT 48 [(0,.isl false (aI.map aa)),(3,.hs 1 0 [] 4 0 (x2.2.map aa).length),(4,I x2.1),(5,I x3),(29,B u4)] [⟨0,4,x2.2.map aa⟩] 2):=by
  intro u4 hu
  replace h:=hy42 u4 hu
  refine sq h ?_ ?_<;>intro h
  ·refine aq 1 ?_
   refine cq 7 [5] [I (ac (x3 - 1))] 50 ?_
   refine dm ?_
   exact rf [0,3,4,5] [1] (ih _ _ h hr hn :)
  ·refine aq 1 ?_
   exact rf [0,3,4,5] [1] (hn _ (al h) :) (hk:=hK)
 have r4:∀r',y4=.inl r'→∀st,Ez aI r' st→Q st:=fun r' e st hq=>hr r' (hy41 r' e) st hq
 replace h:=hy4
 refine sp 17 h rfl ?_ ?_<;>intro h
 ·refine dk 2 [19,18] [I x2.1,.isl false (aI.map aa)] ?_
  obtain⟨e5,he5,h⟩:=bS h
  refine dy [] [] (.iptr (aa e5) 0) rfl (ah rfl rfl rfl (cp rfl rfl rfl rfl he5)) ?_
  refine dy [] [] (aa e5) rfl (bm rfl rfl) ?_
  refine dk 3 [24,23,22] [I (ac (x3 - 1)),I x3,.hs 1 0 [] 4 0 (x2.2.map aa).length] ?_
  obtain⟨e6,he6,h⟩:=bS h
  refine dy [1] [] (.hp 1 0 [] 4 (0+Int.toNat (ac (x3 - 1))) 0) rfl (ah rfl rfl rfl (aL (f:=aa) (xs:=x2.2) rfl rfl rfl he6)) ?_
  refine dy [1] [] (aa e6) rfl (bm rfl (bZ (path:=[]) rfl rfl rfl aw (aB (f:=aa) (xs:=x2.2) he6) rfl rfl rfl)) ?_
  obtain⟨r7,hr7,h⟩:=bS h
  refine dy [] [] (I r7) rfl (cP (RZ hr7)) ?_ (dK rfl rfl rfl rfl (ba (bl rfl) (ba (bl rfl) cS)) (RZ hr7) (.inr rfl) rfl)
  refine dk 2 [29,28] [B (decide (r7<0)),B (decide (r7<0))] ?_
  refine de 242 rfl rfl ?_
  exact rf [0,3,4,5,29] [1] (j4 _ (al h) :)
 ·refine dk 12 [29,28,27,26,25,24,23,22,21,20,19,18] [B false,.und,.und,.und,.und,.und,.und,.und,.und,.und,.und,.und] ?_
  refine de 242 rfl rfl ?_
  exact rf [0,3,4,5,29] [1] (j4 _ (al h) :)
theorem MD (aI:List Event):cf wA 0 (Ez aI) (cL (cL (cR (cL (cR (cR JS)))))) 0 (qw aI) (fun u=>(sT 48 [(3,.hs 1 0 [] 4 0 (u.map aa).length)] [⟨0,4,u.map aa⟩] 2)) fun x2=>(sT 48 [(0,.isl false (aI.map aa)),(3,.hs 1 0 [] 4 0 (x2.2.map aa).length),(4,I x2.1)] [⟨0,4,x2.2.map aa⟩] 2):=eu (zi aI) fun {Q K} hK self ih x2 y h hr hn=>by
 unfold lw at h
 refine cq 5 [7,8] [I x2.1,.isl false (aI.map aa)] 34 ?_
 refine oq 50 (I (len aI)) rfl (cg rfl rfl rfl (du rfl)) ?_
 refine cq 2 [10] [B (decide (x2.1<(len aI)))] 66 ?_
 refine sq h ?_ ?_<;>intro h
 ·refine aq 1 ?_
  refine cq 5 [13] [.hs 1 0 [] 4 0 (x2.2.map aa).length] 82 ?_
  refine oq 98 (I (len x2.2)) rfl (cg rfl rfl rfl (kd (f:=aa) (xs:=x2.2) rfl rfl)) ?_
  refine cq 4 [5] [I (len x2.2)] 114 ?_
  obtain⟨y8,hy8,hy81,hy82⟩:=bL h
  refine bO rfl ?_
  refine rf [0,3,4,5] [1] (ME aI x2 rfl (len x2.2) _ hy8 (fun r' e st hq=>hr r' (hy81 r' e) st hq) fun u8 hu=>?_)
  replace h:=hy82 u8 hu
  refine cn [0,0,0,6,15,0,0,96,224,480,1023,0,0,6144,16383,32767] rfl (by decide +kernel) ?_
  refine dq [] [] (.hs 2 0 [] 4 0 0) rfl (ec rfl (jh (f:=I) (xs:=[]) (z:=.agg [I (0),I (0),str ([]),I (0)]) (es:=[]) (ws:=[]) rfl rfl rfl (by decide) rfl (dt rfl) rfl)) ?_
  refine dk 2 [34,33] [I u8,.hs 1 0 [] 4 0 (x2.2.map aa).length] ?_
  obtain⟨s9,hs9,h⟩:=bS h
  refine dq [1] [] (.hs 1 0 [] 4 (0+Int.toNat (0)) (Int.toNat u8 - Int.toNat (0))) rfl (gI rfl rfl rfl rfl (lO (f:=aa) (xs:=x2.2) rfl rfl rfl rfl rfl hs9)) ?_
  obtain⟨p10,hp10,h⟩:=bS h
  obtain⟨a11,ha11,h⟩:=bS h
  refine dq [2,1] [2] (.hs 66 0 [] 4 0 (a11.map aa).length) rfl (jq rfl rfl rfl rfl rfl (mu (path:=[]) (es0:=[]) (f:=aa) (xs:=([]:List Event)) (ys:=p10) rfl rfl (yt (path:=[]) (f:=aa) (xs:=x2.2) rfl rfl aw hp10 iW) rfl rfl rfl rfl rfl (by decide) jj ha11 rfl o9)) ?_ (vm rfl (uI (path:=[]) (f:=aa) (xs:=x2.2) rfl rfl aw iW rfl))
  refine dk 2 [38,37] [I x2.1,.isl false (aI.map aa)] ?_
  obtain⟨e12,he12,h⟩:=bS h
  refine dq [] [] (.iptr (aa e12) 0) rfl (ah rfl rfl rfl (cp rfl rfl rfl rfl he12)) ?_
  refine dq [] [] (aa e12) rfl (bm rfl rfl) ?_
  refine dq [] [] (.hs 146 0 [] 4 0 1) rfl (ec rfl (jh (f:=I) (xs:=[]) (z:=.agg [I (0),I (0),str ([]),I (0)]) (es:=[aa e12]) (ws:=[aa e12]) rfl rfl rfl (by decide) rfl (dt rfl) rfl)) ?_
  obtain⟨a13,ha13,h⟩:=bS h
  refine dq [66,146] [66] (.hs 162 0 [] 4 0 (a13.map aa).length) rfl (jq rfl rfl rfl rfl rfl (mu (path:=[]) (f:=aa) (xs:=a11) (ys:=[e12]) rfl rfl (qB rfl rfl rfl) rfl rfl rfl aw rfl (by decide) jj ha13 rfl o9)) ?_ (vm rfl (uI (path:=[]) (f:=aa) (xs:=[e12]) rfl rfl aw iW rfl))
  refine dk 2 [44,43] [I u8,.hs 1 0 [] 4 0 (x2.2.map aa).length] ?_
  obtain⟨s14,hs14,h⟩:=bS h
  refine dq [1] [] (.hs 1 0 [] 4 (0+Int.toNat u8) (Int.toNat (len x2.2) - Int.toNat u8)) rfl (gI rfl rfl rfl rfl (lO (f:=aa) (xs:=x2.2) rfl rfl rfl rfl (Gx rfl) hs14)) ?_
  obtain⟨p15,hp15,h⟩:=bS h
  obtain⟨a16,ha16,h⟩:=bS h
  refine dq [162,1] [162] (.hs 226 0 [] 4 0 (a16.map aa).length) rfl (jq rfl rfl rfl rfl rfl (mu (path:=[]) (f:=aa) (xs:=a13) (ys:=p15) rfl rfl (yt (path:=[]) (f:=aa) (xs:=x2.2) rfl rfl aw hp15 iW) rfl rfl rfl aw rfl (by decide) jj ha16 rfl o9)) ?_ (vm rfl (uI (path:=[]) (f:=aa) (xs:=x2.2) rfl rfl aw iW rfl))
  refine dk 1 [3] [.hs 226 0 [] 4 0 (a16.map aa).length] ?_
  refine de 258 rfl rfl ?_
  refine cq 6 [4] [I (ac (x2.1+1))] 306 ?_
  refine dm ?_
  exact rf [0,3,4] [226] (ih _ _ h hr hn :)
 ·refine aq 1 ?_
  exact rf [3] [1] (hn _ (al h) :) (hk:=hK)
theorem UZ (aI:List Event)(r:(List Event))(h:wz aI=some r):bN wA Tryz.f78 [false] 0 (Ey aI) (EA r):=by
 show Run _ _ (Ez aI r) [.code JS] _
 refine rI 48 [(0,.isl false (aI.map aa))] [] 1 ?_
 unfold wz at h
 refine cq 6 [] [] 17 ?_
 refine oq 33 (.hs 17 0 [] 4 0 0) rfl (ec rfl (jh (f:=I) (xs:=[]) (z:=.agg [I (0),I (0),str ([]),I (0)]) (es:=[]) (ws:=[]) rfl rfl rfl (by decide) rfl (dt rfl) rfl)) ?_
 refine cq 8 [3,4] [.hs 17 0 [] 4 0 0,I (0)] 65 ?_
 obtain⟨y17,hy17,hy171,hy172⟩:=bJ h
 refine bO rfl ?_
 refine rf [0,3,4] [17] (MD aI rfl (0,[]) _ hy17 (fun r' e st hq=>by rw[hy171 r' e] at hq;exact hq) fun u17 hu=>?_)
 replace h:=hy172 u17 hu
 refine cq 5 [2] [.hs 1 0 [] 4 0 (u17.map aa).length] 34 ?_
 obtain rfl:=sI h
 exact bR rfl ⟨_,fin (vs:=[.hs 1 0 [] 4 0 (u17.map aa).length]) rfl (d6 (gt rfl (eg rfl rfl)) cX) rfl (bH d4),dX⟩
theorem R3 {G:cD}:ct G 78 Bt:=gT 1 0 (bb R1 bP) cJ Tryz.func78 (fun a r h=>UZ a r h)
def DT:Contract→List V:=oA bn
def DU (r:(List Event)):V×List V:=(.usl 4 (r.map aa),[])
noncomputable def A9 :=bA [false] DT DU fun x=>A8 x
theorem ZJ {c_1:Contract}{r}(h:A8 c_1=some r):A9.F (DT c_1)=some (DU r):=aV (aW co) h
noncomputable def Rs :=aQ Tryz.f50
noncomputable abbrev xJ :=cL (cL (cR (cL (cR (cR Rs)))))
noncomputable abbrev F4 :=cL (cL (cR (cL (cR (cR (cR (cL (cL (cR xJ)))))))))
noncomputable def tC :=S2 Tryz.prog [(78,Bt)] [77]
def v8 (x:Contract)(r:(List Event)):St→Prop:=QF tC Tryz.f50 [false] (DT x) (DU r)
theorem Ms (c_1:Contract)(x2:Int×(List Event))(e3:Clause):cf tC 0 (v8 c_1) F4 2 (qt c_1 x2 e3) (fun u=>(sT 52 [(1,.hp 1 0 [] 2 0 0),(3,.hs 2 0 [] 4 0 (x2.2.map aa).length),(4,I x2.1),(6,.hp 3 0 [] 4 0 0),(7,B u)] [⟨0,2,[ak c_1]⟩,⟨0,4,x2.2.map aa⟩,⟨0,4,[.agg [I (0),I e3.Party,str e3.Action,I e3.Amount]]⟩] 4)) fun x4=>(sT 52 [(1,.hp 1 0 [] 2 0 0),(3,.hs 2 0 [] 4 0 (x2.2.map aa).length),(4,I x2.1),(6,.hp 3 0 [] 4 0 0),(7,B x4.1),(8,I x4.2)] [⟨0,2,[ak c_1]⟩,⟨0,4,x2.2.map aa⟩,⟨0,4,[.agg [I (0),I e3.Party,str e3.Action,I e3.Amount]]⟩] 4):=eu (yX c_1 x2 e3) fun {Q K} hK self ih x4 y h hr hn=>by
 unfold li at h
 refine cq 5 [29,30] [I x4.2,.hs 2 0 [] 4 0 (x2.2.map aa).length] 36 ?_
 refine oq 52 (I (len x2.2)) rfl (cg rfl rfl rfl (kd (f:=aa) (xs:=x2.2) rfl rfl)) ?_
 refine cq 2 [32] [B (decide (x4.2<(len x2.2)))] 68 ?_
 refine sq h ?_ ?_<;>intro h
 ·refine aq 1 ?_
  refine aq 2 ?_
  refine cn [0,1,3,3,15,31,3,127,255,511] rfl (by decide +kernel) ?_
  refine dk 2 [36,35] [B x4.1,B x4.1] ?_
  obtain⟨y5,hy5,hy51,hy52⟩:=bL h
  have j5:∀u5,y5=.inr u5→Run tC 0 Q (.blk 3::.code (cR (cR F4))::.lp F4::.blk 2::K) (sT 52 [(1,.hp 1 0 [] 2 0 0),(3,.hs 2 0 [] 4 0 (x2.2.map aa).length),(4,I x2.1),(6,.hp 3 0 [] 4 0 0),(7,B u5),(8,I x4.2)] [⟨0,2,[ak c_1]⟩,⟨0,4,x2.2.map aa⟩,⟨0,4,[.agg [I (0),I e3.Party,str e3.Action,I e3.Amount]]⟩] 4):=by
   intro u5 hu
   replace h:=hy52 u5 hu
   refine cq 6 [8] [I (ac (x4.2+1))] 52 ?_
   refine dm ?_
   exact rf [1,3,4,6,7,8] [1,2,3] (ih _ _ h hr hn :)
  have r5:∀r',y5=.inl r'→∀st,v8 c_1 r' st→Q st:=fun r' e st hq=>hr r' (hy51 r' e) st hq
  replace h:=hy5
  refine sp 36 h rfl ?_ ?_<;>intro h
  ·refine dk 8 [7,43,42,41,40,39,38,37] [B true,B true,.und,.und,.und,.und,.und,.und] ?_
   refine de 228 rfl rfl ?_
   exact rf [1,3,4,6,7,8] [1,2,3] (j5 _ (al h) :)
  ·refine dk 2 [38,37] [I x4.2,.hs 2 0 [] 4 0 (x2.2.map aa).length] ?_
   obtain⟨e6,he6,h⟩:=bS h
   refine dy [2] [] (.hp 2 0 [] 4 (0+Int.toNat x4.2) 0) rfl (ah rfl rfl rfl (aL (f:=aa) (xs:=x2.2) rfl rfl rfl he6)) ?_
   refine dy [2] [] (aa e6) rfl (bm rfl (bZ (path:=[]) rfl rfl rfl aw (aB (f:=aa) (xs:=x2.2) he6) rfl rfl rfl)) ?_
   refine dy [3] [] (.agg [I (0),I e3.Party,str e3.Action,I e3.Amount]) rfl (bm rfl rfl) ?_
   refine dy [] [] (B (e6.Day==0&&(e6.Party==e3.Party&&(e6.Action==e3.Action&&(e6.Amount==e3.Amount&&true))))) rfl (xT rfl rfl (Sq (b:=(e6.Day==0&&(e6.Party==e3.Party&&(e6.Action==e3.Action&&(e6.Amount==e3.Amount&&true))))) rfl rfl rfl rfl)) ?_
   refine dk 2 [7,43] [B (e6.Day==0&&(e6.Party==e3.Party&&(e6.Action==e3.Action&&(e6.Amount==e3.Amount&&true)))),B (e6.Day==0&&(e6.Party==e3.Party&&(e6.Action==e3.Action&&(e6.Amount==e3.Amount&&true))))] ?_
   refine de 228 rfl rfl ?_
   exact rf [1,3,4,6,7,8] [1,2,3] (j5 _ (al h) :)
 ·refine aq 1 ?_
  exact rf [1,3,4,6,7] [1,2,3] (hn _ (al h) :) (hk:=hK)
theorem Mr (c_1:Contract):cf tC 0 (v8 c_1) xJ 0 (qs c_1) (fun u=>(sT 52 [(3,.hs 1 0 [] 4 0 (u.map aa).length)] [⟨0,4,u.map aa⟩] 2)) fun x2=>(sT 52 [(1,.hp 1 0 [] 2 0 0),(3,.hs 2 0 [] 4 0 (x2.2.map aa).length),(4,I x2.1)] [⟨0,2,[ak c_1]⟩,⟨0,4,x2.2.map aa⟩] 3):=eu (yW c_1) fun {Q K} hK self ih x2 y h hr hn=>by
 unfold lh at h
 refine cq 6 [10,12] [I x2.1,.isl false (c_1.Clauses.map aA)] 51 ?_
 refine oq 67 (I (len c_1.Clauses)) rfl (cg rfl rfl rfl (du rfl)) ?_
 refine cq 2 [14] [B (decide (x2.1<(len c_1.Clauses)))] 83 ?_
 refine sq h ?_ ?_<;>intro h
 ·refine aq 1 ?_
  refine cq 7 [18,19] [.isl false (c_1.Clauses.map aA),I x2.1] 131 ?_
  obtain⟨e3,he3,h⟩:=bS h
  refine oq 147 (.iptr (aG e3) 0) rfl (ah rfl rfl rfl (cp rfl rfl rfl rfl he3)) ?_
  refine ck 2 [5,21] [] [163] [] [.hp 163 0 [] 12 0 0,aG e3] [some ⟨0,12,[.agg [str ([]),I (0),I (0),str ([]),I (0),I (0),I (0),str ([]),I (0),.isl true [],I (0),str ([])]]⟩] 179 (by kernel_rfl) ?_
  refine gJ 163 [.agg [str ([]),I (0),I (0),str ([]),I (0),I (0),I (0),str ([]),I (0),.usl 4 (([]).map ai),I (0),str ([])]] rfl rfl (aN (iH (aN (.refl _) (aN (.refl _) (aN (.refl _) (aN (.refl _) (aN (.refl _) (aN (.refl _) (aN (.refl _) (aN (.refl _) (aN (.refl _) (aN (.nil _) (aN (.refl _) (aN (.refl _) fp))))))))))))) fp) ?_
  refine ck 24 [6,7,8] [] [163,307] [] [.hp 307 0 [] 4 0 0,B false,I (0)] [some ⟨2,12,[aG e3]⟩,some ⟨0,4,[.agg [I (0),I e3.Party,str e3.Action,I e3.Amount]]⟩] 371 (by kernel_rfl) ?_
  obtain⟨y7,hy7,hy71,hy72⟩:=bL h
  refine bO rfl ?_
  refine rf [1,3,4,6,7,8] [1,2,307] (Ms c_1 x2 e3 rfl (false,0) _ hy7 (fun r' e st hq=>hr r' (hy71 r' e) st hq) fun u7 hu=>?_)
  replace h:=hy72 u7 hu
  refine cq 5 [45] [B (!u7)] 36 ?_
  obtain⟨y8,hy8,hy81,hy82⟩:=bL h
  have j8:∀u8,y8=.inr u8→Run tC 0 Q (.blk 1::.code (cR (cR xJ))::.lp xJ::.blk 0::K) (sT 52 [(1,.hp 1 0 [] 2 0 0),(3,.hs 2 0 [] 4 0 (u8.map aa).length),(4,I x2.1)] [⟨0,2,[ak c_1]⟩,⟨0,4,u8.map aa⟩] 3):=by
   intro u8 hu
   replace h:=hy82 u8 hu
   refine cq 6 [4] [I (ac (x2.1+1))] 51 ?_
   refine dm ?_
   exact rf [1,3,4] [1,2] (ih _ _ h hr hn :)
  have r8:∀r',y8=.inl r'→∀st,v8 c_1 r' st→Q st:=fun r' e st hq=>hr r' (hy81 r' e) st hq
  replace h:=hy8
  refine sq h ?_ ?_<;>intro h
  ·refine cq 3 [46,47] [.hs 2 0 [] 4 0 (x2.2.map aa).length,.agg [I (0),I e3.Party,str e3.Action,I e3.Amount]] 68 ?_
   refine oq 84 (.hs 68 0 [] 4 0 1) rfl (ec rfl (jh (f:=I) (xs:=[]) (z:=.agg [I (0),I (0),str ([]),I (0)]) (es:=[.agg [I (0),I e3.Party,str e3.Action,I e3.Amount]]) (ws:=[.agg [I (0),I e3.Party,str e3.Action,I e3.Amount]]) rfl rfl rfl (by decide) rfl (dt rfl) rfl)) ?_
   obtain⟨a9,ha9,h⟩:=bS h
   refine oq 100 (.hs 84 0 [] 4 0 (a9.map aa).length) rfl (jq rfl rfl rfl rfl rfl (mu (path:=[]) (f:=aa) (xs:=x2.2) (ys:=[(Event.mk 0 e3.Party e3.Action e3.Amount)]) rfl rfl (qB rfl rfl rfl) rfl rfl rfl aw rfl (by decide) jj ha9 rfl o9)) ?_
   refine cq 2 [3] [.hs 84 0 [] 4 0 (a9.map aa).length] 116 ?_
   exact rf [1,3,4] [1,84] (j8 _ (al h) :)
  ·refine aq 1 ?_
   exact rf [1,3,4] [1,2] (j8 _ (al h) :)
 ·refine aq 1 ?_
  exact rf [3] [2] (hn _ (al h) :) (hk:=hK)
theorem UD (c_1:Contract)(r:(List Event))(h:A8 c_1=some r):bN tC Tryz.f50 [false] 0 (DT c_1) (DU r):=by
 show Run _ _ (v8 c_1 r) [.code Rs] _
 refine rI 52 [(0,ak c_1)] [] 1 ?_
 unfold A8 at h
 refine ck 7 [1] [] [1] [] [.hp 1 0 [] 2 0 0] [some ⟨0,2,[ak c_1]⟩] 33 (by kernel_rfl) ?_
 refine oq 49 (.hs 33 0 [] 4 0 0) rfl (ec rfl (jh (f:=I) (xs:=[]) (z:=.agg [I (0),I (0),str ([]),I (0)]) (es:=[]) (ws:=[]) rfl rfl rfl (by decide) rfl (dt rfl) rfl)) ?_
 refine cq 8 [3,4] [.hs 33 0 [] 4 0 0,I (0)] 81 ?_
 obtain⟨y10,hy10,hy101,hy102⟩:=bJ h
 refine bO rfl ?_
 refine rf [1,3,4] [1,33] (Mr c_1 rfl (0,[]) _ hy10 (fun r' e st hq=>by rw[hy101 r' e] at hq;exact hq) fun u10 hu=>?_)
 replace h:=hy102 u10 hu
 refine cq 3 [50] [.hs 1 0 [] 4 0 (u10.map aa).length] 18 ?_
 obtain⟨r11,hr11,h⟩:=bS h
 refine oq 34 (.hs 18 0 [] 4 0 (r11.map aa).length) rfl (bC rfl rfl (bW rfl rfl rfl (ba (ul rfl rfl (f9 (f:=aa) (g:=aa) (xs:=u10) rfl rfl (eh fK))) cS) (ZV hr11) (.inl (by simp[di,dR,str,qY (f:=aa) l8])) dE rfl rfl rfl)) ?_
 refine cq 2 [2] [.hs 18 0 [] 4 0 (r11.map aa).length] 50 ?_
 obtain rfl:=sI h
 exact bR rfl ⟨_,fin (vs:=[.hs 18 0 [] 4 0 (r11.map aa).length]) rfl (d6 (gt rfl (eg rfl rfl)) cX) rfl (bH d4),dX⟩
theorem Rt {G:cD}:ct G 50 A9:=KE (sb (bb R3 bP)) (wN (by
 intro t ht
 simp only[List.mem_cons,List.not_mem_nil,or_false] at ht
 rcases ht with rfl
 all_goals kernel_rfl)) cJ Tryz.func50 (n:=1) (m:=0) ⟨rfl,rfl,by decide⟩ (fun _=>⟨rfl,rfl⟩) (fun a r h=>UD a r h)
def DR:Contract→List V:=oA bn
def DS (r:(List Event)×Bool):V×List V:=(.tup [.usl 4 (r.1.map aa),B r.2],[])
noncomputable def A7 :=bA [false] DR DS fun x=>A6 x
theorem ZG {c_1:Contract}{r}(h:A6 c_1=some r):A7.F (DR c_1)=some (DS r):=aV (aW co) h
noncomputable def ZI :=aQ Tryz.f21
noncomputable def Rq :=cI [(28,Bo),(50,A9)]
def ZH (x:Contract)(r:(List Event)×Bool):St→Prop:=QF Rq Tryz.f21 [false] (DR x) (DS r)
theorem UC (c_1:Contract)(r:(List Event)×Bool)(h:A6 c_1=some r):bN Rq Tryz.f21 [false] 0 (DR c_1) (DS r):=by
 show Run _ _ (ZH c_1 r) [.code ZI] _
 refine rI 10 [(0,ak c_1)] [] 1 ?_
 unfold A6 at h
 refine ck 10 [1,4] [] [1] [] [.hp 1 0 [] 2 0 0,ak c_1] [some ⟨0,2,[ak c_1]⟩] 65 (by kernel_rfl) ?_
 obtain⟨r2,hr2,h⟩:=bS h
 refine oq 81 (B r2) rfl (cP (ZS hr2)) ?_
 refine cq 2 [6] [B (!r2)] 97 ?_
 refine sq h ?_ ?_<;>intro h
 ·refine aq 2 ?_
  refine oq 113 (.hs 97 0 [] 4 0 0) rfl (ec rfl (jh (f:=I) (xs:=[]) (z:=.agg [I (0),I (0),str ([]),I (0)]) (es:=[]) (ws:=[]) rfl rfl rfl (by decide) rfl (dt rfl) rfl)) ?_
  refine cq 3 [2,3] [.hs 97 0 [] 4 0 0,B false] 145 ?_
  obtain rfl:=sI h
  exact bR rfl ⟨_,fin (vs:=[.hs 97 0 [] 4 0 0,B false]) rfl (d6 (gt rfl (eg (k:=0) (es:=[]) rfl rfl)) (d6 (ap rfl) cX)) rfl (bH d4),dX⟩
 ·refine aq 1 ?_
  refine cq 3 [8] [ak c_1] 113 ?_
  obtain⟨r3,hr3,h⟩:=bS h
  refine oq 129 (.hs 113 0 [] 4 0 (r3.map aa).length) rfl (cP (ZJ hr3)) ?_
  refine cq 3 [2,3] [.hs 113 0 [] 4 0 (r3.map aa).length,B true] 161 ?_
  obtain rfl:=sI h
  exact bR rfl ⟨_,fin (vs:=[.hs 113 0 [] 4 0 (r3.map aa).length,B true]) rfl (d6 (gt rfl (eg rfl rfl)) (d6 (ap rfl) cX)) rfl (bH d4),dX⟩
theorem Rr {G:cD}:ct G 21 A7:=gT 1 0 (bb RT (bb Rt bP)) cJ Tryz.func21 (fun a r h=>UC a r h)
def ID:(Int×Int×Int)→List V:=cA I (cA I (oA I))
def IE (r:Bool):V×List V:=(B r,[])
noncomputable def nr :=bA [false,false,false] ID IE fun x=>oz x.1 x.2.1 x.2.2
theorem nN {n_1:Int}{oc:Int}{lG:Int}{r}(h:oz n_1 oc lG=some r):nr.F (ID (n_1,oc,lG))=some (IE r):=aV (aY bF (aY bF (aW bF))) h
noncomputable def WM :=aQ Tryz.f63
noncomputable def OE :=cI []
def WL (x:Int×Int×Int)(r:Bool):St→Prop:=QF OE Tryz.f63 [false,false,false] (ID x) (IE r)
theorem XM (n_1:Int)(oc:Int)(lG:Int)(r:Bool)(h:oz n_1 oc lG=some r):bN OE Tryz.f63 [false,false,false] 0 (ID (n_1,oc,lG)) (IE r):=by
 show Run _ _ (WL (n_1,oc,lG) r) [.code WM] _
 refine rI 15 [(0,I n_1),(1,I oc),(2,I lG)] [] 1 ?_
 unfold oz at h
 refine cq 10 [10] [B (decide (n_1≥oc))] 81 ?_
 obtain⟨u4,hu4,h⟩:=lJ h
 have j4:Run OE 0 (WL (n_1,oc,lG) r) (.code (cR (cR WM))::[]) (sT 15 [(6,B u4)] [] 1):=by
  obtain rfl:=sI h
  exact rP [B u4]
 replace h:=hu4
 clear hu4
 refine sp 10 h rfl ?_ ?_<;>intro h
 ·refine cq 6 [6] [B (decide (n_1≤lG))] 161 ?_
  subst h
  exact rf [6] [] (j4 :)
 ·refine cq 6 [6] [B false] 161 ?_
  subst h
  exact rf [6] [] (j4 :)
theorem oM {G:cD}:ct G 63 nr:=gT 3 0 bP cJ Tryz.func63 (fun a r h=>XM a.1 a.2.1 a.2.2 r h)
noncomputable def kq:Ent:=⟨[false,false],uN (pf str) (pf (V.int .u8)) fun s c=>some (I ((Lib.countByte s c.toNat.toUInt8:Nat):Int),[])⟩
theorem GR {s:ae}{c r:Int}(h:xt s c=some r):kq.F [str s,.int .u8 c]=some (I r,[]):=by
 cases h
 simp only[kq,uN,Fg bT,Fg TB,Option.bind_some]
theorem GS:Extern.findNext Tryz.f156=none:=by kernel_rfl
theorem GT:Extern.find Tryz.f156=some Extern.BytealgCount.count:=by kernel_rfl
theorem yx {G:cD}:ct G 156 kq:=NJ (g:=fun s c=>((Lib.countByte s c.toNat.toUInt8:Nat):Int)) Tryz.func156 rfl (by decide) GS GT fun s c w=>Lib.run_countString s c w
noncomputable def iP:Ent:=⟨[false,false],uN (pf str) (pf (V.int .u8)) fun s c=>some (I (Lib.indexByte s c.toNat.toUInt8),[])⟩
theorem xu {s:ae}{c r:Int}(h:rp s c=some r):iP.F [str s,.int .u8 c]=some (I r,[]):=by
 cases h
 simp only[iP,uN,Fg bT,Fg TB,Option.bind_some]
theorem xw:Extern.findNext Tryz.f164=none:=by kernel_rfl
theorem xy:Extern.find Tryz.f164=some Extern.BytealgIndexByte.indexByte:=by kernel_rfl
theorem uo {G:cD}:ct G 164 iP:=NJ (g:=fun s c=>Lib.indexByte s c.toNat.toUInt8) Tryz.func164 rfl (by decide) xw xy fun s c w=>Lib.run_indexByteString s c w
def II:(ae×Int)→List V:=cA str (oA (V.int .u8))
def IJ (r:Int):V×List V:=(I r,[])
noncomputable def Gq :=bA [false,false] II IJ fun x=>Sj x.1 x.2
theorem aa9 {s_1:ae}{c_2:Int}{r}(h:Sj s_1 c_2=some r):Gq.F (II (s_1,c_2))=some (IJ r):=aV (aY bT (aW (ro (k:=.u8)))) h
noncomputable def abb :=aQ Tryz.f160
noncomputable def WO :=cI [(164,iP)]
def aba (x:ae×Int)(r:Int):St→Prop:=QF WO Tryz.f160 [false,false] (II x) (IJ r)
theorem XO (s_1:ae)(c_2:Int)(r:Int)(h:Sj s_1 c_2=some r):bN WO Tryz.f160 [false,false] 0 (II (s_1,c_2)) (IJ r):=by
 show Run _ _ (aba (s_1,c_2) r) [.code abb] _
 refine rI 8 [(0,str s_1),(1,.int .u8 c_2)] [] 1 ?_
 unfold Sj at h
 refine cq 8 [5,6] [str s_1,.int .u8 c_2] 49 ?_
 obtain⟨r3,hr3,h⟩:=bS h
 refine oq 65 (I r3) rfl (cP (xu hr3)) ?_
 refine cq 2 [4] [I r3] 81 ?_
 obtain rfl:=sI h
 exact rP [I r3]
theorem Vj {G:cD}:ct G 160 Gq:=gT 2 0 (bb uo bP) cJ Tryz.func160 (fun a r h=>XO a.1 a.2 r h)
def IG:(ae×ae)→List V:=cA str (oA str)
def IH (r:Int):V×List V:=(I r,[])
noncomputable def Gp :=bA [false,false] IG IH fun x=>Si x.1 x.2
theorem aa8 {s_1:ae}{bh:ae}{r}(h:Si s_1 bh=some r):Gp.F (IG (s_1,bh))=some (IH r):=aV (aY bT (aW bT)) h
noncomputable def OH :=aQ Tryz.f157
noncomputable def OG :=cI [(160,Gq)]
def WN (x:ae×ae)(r:Int):St→Prop:=QF OG Tryz.f157 [false,false] (IG x) (IH r)
theorem XN (s_1:ae)(bh:ae)(r:Int)(h:Si s_1 bh=some r):bN OG Tryz.f157 [false,false] 0 (IG (s_1,bh)) (IH r):=by
 show Run _ _ (WN (s_1,bh) r) [.code OH] _
 refine rI 143 [(0,str s_1),(1,str bh)] [] 1 ?_
 unfold Si at h
 refine cq 17 [5,19] [I (len bh),B ((len bh)==0)] 113 ?_
 obtain⟨u3,hu3,h⟩:=lJ h
 have j3:Run OG 0 (WN (s_1,bh) r) (.code (cR (cL (cL (cR (cR OH)))))::.blk 0::.code (cR (cR (cR OH)))::[]) (sT 143 [(0,str s_1),(1,str bh),(5,I (len bh)),(16,B u3)] [] 1):=by
  refine sq h ?_ ?_<;>intro h
  ·refine cq 4 [4] [I (0)] 17 ?_
   obtain rfl:=sI h
   exact rP [I (0)]
  ·refine cq 6 [24] [B ((len bh)==1)] 49 ?_
   refine sq h ?_ ?_<;>intro h
   ·refine cq 4 [27,28] [str s_1,str bh] 81 ?_
    obtain⟨c4,hc4,h⟩:=bS h
    refine oq 97 (.int .u8 (c4.toNat:Int)) rfl (l7 rfl rfl (qc rfl rfl hc4)) ?_
    obtain⟨r5,hr5,h⟩:=bS h
    refine oq 113 (I r5) rfl (cP (aa9 hr5)) ?_
    refine cq 2 [4] [I r5] 129 ?_
    obtain rfl:=sI h
    exact rP [I r5]
   ·refine cq 8 [31] [B (decide ((len bh)≥(len s_1)))] 129 ?_
    refine sq h ?_ ?_<;>intro h
    ·refine cq 4 [4] [I (-1)] 145 ?_
     obtain rfl:=sI h
     exact rP [I (-1)]
    ·cases h
 replace h:=hu3
 clear hu3
 refine sp 19 h rfl ?_ ?_<;>intro h
 ·refine cq 6 [16] [B true] 193 ?_
  subst h
  exact rf [0,1,5,16] [] (j3 :)
 ·refine cq 6 [16] [B (bh==s_1)] 193 ?_
  subst h
  exact rf [0,1,5,16] [] (j3 :)
theorem Vi {G:cD}:ct G 157 Gp:=gT 2 0 (bb Vj bP) cJ Tryz.func157 (fun a r h=>XN a.1 a.2 r h)
def EF:(ae×ae)→List V:=cA str (oA str)
def EG (r:Int):V×List V:=(I r,[])
noncomputable def uE :=bA [false,false] EF EG fun x=>F9 x.1 x.2
theorem R8 {s_1:ae}{bh:ae}{r}(h:F9 s_1 bh=some r):uE.F (EF (s_1,bh))=some (EG r):=aV (aY bT (aW bT)) h
noncomputable def ZY :=aQ Tryz.f149
noncomputable def R7 :=cI [(157,Gp)]
def ZX (x:ae×ae)(r:Int):St→Prop:=QF R7 Tryz.f149 [false,false] (EF x) (EG r)
theorem U1 (s_1:ae)(bh:ae)(r:Int)(h:F9 s_1 bh=some r):bN R7 Tryz.f149 [false,false] 0 (EF (s_1,bh)) (EG r):=by
 show Run _ _ (ZX (s_1,bh) r) [.code ZY] _
 refine rI 8 [(0,str s_1),(1,str bh)] [] 1 ?_
 unfold F9 at h
 refine cq 8 [5,6] [str s_1,str bh] 49 ?_
 obtain⟨r3,hr3,h⟩:=bS h
 refine oq 65 (I r3) rfl (cP (aa8 hr3)) ?_
 refine cq 2 [4] [I r3] 81 ?_
 obtain rfl:=sI h
 exact rP [I r3]
theorem G1 {G:cD}:ct G 149 uE:=gT 2 0 (bb Vi bP) cJ Tryz.func149 (fun a r h=>U1 a.1 a.2 r h)
def ED:(ae×ae)→List V:=cA str (oA str)
def EE (r:Int):V×List V:=(I r,[])
noncomputable def Bu :=bA [false,false] ED EE fun x=>JT x.1 x.2
theorem ZW {s_1:ae}{bh:ae}{r}(h:JT s_1 bh=some r):Bu.F (ED (s_1,bh))=some (EE r):=aV (aY bT (aW bT)) h
noncomputable def R5 :=aQ Tryz.f148
noncomputable def JU :=cI [(156,kq),(149,uE)]
def R4 (x:ae×ae)(r:Int):St→Prop:=QF JU Tryz.f148 [false,false] (ED x) (EE r)
theorem MG (s_1:ae)(bh:ae):cf JU 0 (R4 (s_1,bh)) (cL (cL (cR (cR (cR (cR R5)))))) 0 (Nx s_1 bh) (fun u=>(sT 34 [] [] 1)) fun x5=>(sT 34 [(0,str x5.1),(1,str bh),(5,I x5.2)] [] 1):=eu (MF s_1 bh) fun {Q K} hK self ih x5 y h hr hn=>by
 unfold rS at h
 refine cq 5 [20,21] [str x5.1,str bh] 33 ?_
 obtain⟨r6,hr6,h⟩:=bS h
 refine oq 49 (I r6) rfl (cP (R8 hr6)) ?_
 refine cq 8 [6,24] [I r6,B (r6==(-1))] 97 ?_
 refine sq h ?_ ?_<;>intro h
 ·refine cq 5 [4] [I x5.2] 129 ?_
  exact bR rfl (hr _ (al h) _ (qp [I x5.2]))
 ·refine aq 1 ?_
  refine cq 12 [5,28,32] [I (ac (x5.2+1)),str x5.1,I (ac (r6+(len bh)))] 225 ?_
  obtain⟨s7,hs7,h⟩:=bS h
  refine oq 241 (str s7) rfl (gI rfl rfl rfl rfl (Lg rfl rfl rfl hs7)) ?_
  refine cq 3 [0] [str s7] 257 ?_
  refine dm ?_
  exact rf [0,1,5] [] (ih _ _ h hr hn :)
theorem U0 (s_1:ae)(bh:ae)(r:Int)(h:JT s_1 bh=some r):bN JU Tryz.f148 [false,false] 0 (ED (s_1,bh)) (EE r):=by
 show Run _ _ (R4 (s_1,bh) r) [.code R5] _
 refine rI 34 [(0,str s_1),(1,str bh)] [] 1 ?_
 unfold JT at h
 refine cq 11 [9] [B ((len bh)==0)] 65 ?_
 refine sq h ?_ ?_<;>intro h
 ·cases h
 ·refine aq 1 ?_
  refine cq 7 [15] [B ((len bh)==1)] 113 ?_
  refine sq h ?_ ?_<;>intro h
  ·refine cq 4 [16,17] [str s_1,str bh] 145 ?_
   obtain⟨c3,hc3,h⟩:=bS h
   refine oq 161 (.int .u8 (c3.toNat:Int)) rfl (l7 rfl rfl (qc rfl rfl hc3)) ?_
   obtain⟨r4,hr4,h⟩:=bS h
   refine oq 177 (I r4) rfl (cP (GR hr4)) ?_
   refine cq 2 [4] [I r4] 193 ?_
   obtain rfl:=sI h
   exact rP [I r4]
  ·refine aq 1 ?_
   refine cq 5 [5] [I (0)] 129 ?_
   obtain⟨y8,hy8,hy81,hy82⟩:=bJ h
   refine bO rfl ?_
   refine rf [0,1,5] [] (MG s_1 bh rfl (s_1,0) _ hy8 (fun r' e st hq=>by rw[hy81 r' e] at hq;exact hq) fun u8 hu=>?_)
   replace h:=hy82 u8 hu
   cases h
theorem R6 {G:cD}:ct G 148 Bu:=gT 2 0 (bb yx (bb G1 bP)) cJ Tryz.func148 (fun a r h=>U0 a.1 a.2 r h)
def EJ:(ae×ae×Int×Int)→List V:=cA str (cA str (cA I (oA I)))
def EL (r:(List ae)):V×List V:=(.usl 1 (r.map str),[])
noncomputable def Bx :=bA [false,false,false,false] EJ EL fun x=>JV x.1 x.2.1 x.2.2.1 x.2.2.2
theorem Z2 {s_1:ae}{eb:ae}{dN:Int}{n_4:Int}{r}(h:JV s_1 eb dN n_4=some r):Bx.F (EJ (s_1,eb,dN,n_4))=some (EL r):=aV (aY bT (aY bT (aY bF (aW bF)))) h
noncomputable def JW :=aQ Tryz.f130
noncomputable abbrev Xs :=cL (cL (cL (cR (cR (cR (cR (cR (cR (cR (cR JW))))))))))
noncomputable def EK :=cI [(149,uE),(148,Bu)]
def wB (x:ae×ae×Int×Int)(r:(List ae)):St→Prop:=QF EK Tryz.f130 [false,false,false,false] (EJ x) (EL r)
theorem MH (s_1:ae)(eb:ae)(dN:Int)(n_4:Int)(u5:Int):cf EK 0 (wB (s_1,eb,dN,n_4)) Xs 0 (xN s_1 eb dN n_4 u5) (fun u=>(sT 66 [(0,str u.1),(9,.hs 1 0 [] 1 0 (u.2.2.map str).length),(10,I u.2.1)] [⟨0,1,u.2.2.map str⟩] 2)) fun x7=>(sT 66 [(0,str x7.1),(1,str eb),(2,I dN),(3,I (ac ((if (ac ((len s_1)+1))<u5 then (ac ((len s_1)+1)) else u5) - 1))),(9,.hs 1 0 [] 1 0 (x7.2.2.map str).length),(10,I x7.2.1)] [⟨0,1,x7.2.2.map str⟩] 2):=eu (zk s_1 eb dN n_4 u5) fun {Q K} hK self ih x7 y h hr hn=>by
 unfold rT at h
 refine cq 7 [36] [B (decide (x7.2.1<(ac ((if (ac ((len s_1)+1))<u5 then (ac ((len s_1)+1)) else u5) - 1))))] 50 ?_
 refine sq h ?_ ?_<;>intro h
 ·refine aq 1 ?_
  refine cq 5 [37,38] [str x7.1,str eb] 82 ?_
  obtain⟨r8,hr8,h⟩:=bS h
  refine oq 98 (I r8) rfl (cP (R8 hr8)) ?_
  refine cq 8 [11,41] [I r8,B (decide (r8<0))] 146 ?_
  refine sq h ?_ ?_<;>intro h
  ·refine aq 1 ?_
   exact rf [0,9,10] [1] (hn _ (al h) :) (hk:=hK)
  ·refine aq 1 ?_
   refine cq 8 [42,43,44,47] [.hs 1 0 [] 1 0 (x7.2.2.map str).length,I x7.2.1,str x7.1,I (ac (r8+dN))] 242 ?_
   obtain⟨s9,hs9,h⟩:=bS h
   refine oq 258 (str s9) rfl (gI rfl rfl rfl rfl (Lg rfl rfl rfl hs9)) ?_
   obtain⟨e10,he10,h⟩:=bS h
   refine oq 274 (.hp 1 0 [] 1 (0+Int.toNat x7.2.1) 0) rfl (ah rfl rfl rfl (aL (f:=str) (xs:=x7.2.2) rfl rfl rfl he10)) ?_
   refine o0 290 rfl rfl (dl rfl rfl (ch (path:=[]) (pl:=true) (e':=str s9) (es2':=(aK x7.2.2 x7.2.1 s9).map str) rfl (ap rfl) rfl rfl rfl aw (aB (f:=str) (xs:=x7.2.2) he10) rfl rfl rfl (eK (f:=str) (xs:=x7.2.2) (y:=s9)) cl 0 rfl)) ?_
   try rw[←ep (f:=str) (xs:=x7.2.2) (i:=x7.2.1) (z:=s9)]
   refine cq 8 [50,54] [str x7.1,I (ac (r8+(len eb)))] 370 ?_
   obtain⟨s11,hs11,h⟩:=bS h
   refine oq 386 (str s11) rfl (gI rfl rfl rfl rfl (Lg rfl rfl rfl hs11)) ?_
   refine cq 8 [0,10] [str s11,I (ac (x7.2.1+1))] 450 ?_
   refine dm ?_
   exact rf [0,1,2,3,9,10] [1] (ih _ _ h hr hn :)
 ·refine aq 1 ?_
  exact rf [0,9,10] [1] (hn _ (al h) :) (hk:=hK)
theorem U3 (s_1:ae)(eb:ae)(dN:Int)(n_4:Int)(r:(List ae))(h:JV s_1 eb dN n_4=some r):bN EK Tryz.f130 [false,false,false,false] 0 (EJ (s_1,eb,dN,n_4)) (EL r):=by
 show Run _ _ (wB (s_1,eb,dN,n_4) r) [.code JW] _
 refine rI 66 [(0,str s_1),(1,str eb),(2,I dN),(3,I n_4)] [] 1 ?_
 unfold JV at h
 refine cq 10 [13] [B (n_4==0)] 49 ?_
 refine sq h ?_ ?_<;>intro h
 ·refine cq 4 [8] [.isl true []] 65 ?_
  refine N1 8 0 1 81 (.hs 65 0 [] 1 0 0) rfl rfl rfl rfl rfl ?_
  obtain rfl:=sI h
  exact bR rfl ⟨_,fin (vs:=[.hs 65 0 [] 1 0 0]) rfl (d6 (gt rfl (eg (k:=0) (es:=[]) rfl rfl)) cX) rfl (bH (bH (bH (bH d4)))),dX⟩
 ·refine aq 1 ?_
  refine cq 6 [15] [B (eb==([]:ae))] 81 ?_
  refine sq h ?_ ?_<;>intro h
  ·cases h
  ·refine aq 1 ?_
   refine cq 6 [20] [B (decide (n_4<0))] 113 ?_
   obtain⟨y5,hy5,hy51,hy52⟩:=bJ h
   have j5:∀u5,y5=.inr u5→Run EK 0 (wB (s_1,eb,dN,n_4) r) (.code (cR (cR (cR (cR JW))))::[]) (sT 66 [(0,str s_1),(1,str eb),(2,I dN),(3,I u5)] [] 1):=by
    intro u5 hu
    replace h:=hy52 u5 hu
    refine cq 12 [3,30] [I (if (ac ((len s_1)+1))<u5 then (ac ((len s_1)+1)) else u5),I (if (ac ((len s_1)+1))<u5 then (ac ((len s_1)+1)) else u5)] 113 ?_
    obtain⟨m6,hm6,h⟩:=bS h
    refine oq 129 (.hs 113 0 [] 1 0 (m6.map str).length) rfl (pg rfl rfl (S5 (f:=str) rfl rfl rfl (by decide) hm6 rfl)) ?_
    refine cq 14 [3,9,10] [I (ac ((if (ac ((len s_1)+1))<u5 then (ac ((len s_1)+1)) else u5) - 1)),.hs 113 0 [] 1 0 (m6.map str).length,I (0)] 209 ?_
    obtain⟨y12,hy12,hy121,hy122⟩:=bJ h
    refine bO rfl ?_
    refine rf [0,1,2,3,9,10] [113] (MH s_1 eb dN n_4 u5 rfl (s_1,0,m6) _ hy12 (fun r' e st hq=>by rw[hy121 r' e] at hq;exact hq) fun u12 hu=>?_)
    replace h:=hy122 u12 hu
    refine cq 5 [58,59,60] [.hs 1 0 [] 1 0 (u12.2.2.map str).length,I u12.2.1,str u12.1] 50 ?_
    obtain⟨e13,he13,h⟩:=bS h
    refine oq 66 (.hp 1 0 [] 1 (0+Int.toNat u12.2.1) 0) rfl (ah rfl rfl rfl (aL (f:=str) (xs:=u12.2.2) rfl rfl rfl he13)) ?_
    refine o0 82 rfl rfl (dl rfl rfl (ch (path:=[]) (pl:=true) (e':=str u12.1) (es2':=(aK u12.2.2 u12.2.1 u12.1).map str) rfl (ap rfl) rfl rfl rfl aw (aB (f:=str) (xs:=u12.2.2) he13) rfl rfl rfl (eK (f:=str) (xs:=u12.2.2) (y:=u12.1)) cl 0 rfl)) ?_
    try rw[←ep (f:=str) (xs:=u12.2.2) (i:=u12.2.1) (z:=u12.1)]
    refine cq 6 [62,64] [.hs 1 0 [] 1 0 ((aK u12.2.2 u12.2.1 u12.1).map str).length,I (ac (u12.2.1+1))] 130 ?_
    obtain⟨s14,hs14,h⟩:=bS h
    refine oq 146 (.hs 1 0 [] 1 (0+Int.toNat (0)) (Int.toNat (ac (u12.2.1+1)) - Int.toNat (0))) rfl (gI rfl rfl rfl rfl (lO (f:=str) (xs:=(aK u12.2.2 u12.2.1 u12.1)) rfl rfl rfl rfl rfl hs14)) ?_
    refine cq 2 [8] [.hs 1 0 [] 1 (0+Int.toNat (0)) (Int.toNat (ac (u12.2.1+1)) - Int.toNat (0))] 162 ?_
    obtain⟨p15,hp15,h⟩:=bS h
    obtain rfl:=sI h
    exact bR rfl ⟨_,fin (vs:=[.hs 1 0 [] 1 (0+Int.toNat (0)) (Int.toNat (ac (u12.2.1+1)) - Int.toNat (0))]) rfl (d6 (gt rfl (Ke (path:=[]) (f:=str) (xs:=(aK u12.2.2 u12.2.1 u12.1)) rfl rfl aw hp15 rfl o9)) cX) rfl (bH (bH (bH (bH d4)))),dX⟩
   have r5:∀r',y5=.inl r'→∀st,wB (s_1,eb,dN,n_4) r' st→(wB (s_1,eb,dN,n_4) r) st:=fun r' e st hq=>by rw[hy51 r' e] at hq;exact hq
   replace h:=hy5
   refine sq h ?_ ?_<;>intro h
   ·refine cq 3 [21,22] [str s_1,str eb] 145 ?_
    obtain⟨r16,hr16,h⟩:=bS h
    refine oq 161 (I r16) rfl (cP (ZW hr16)) ?_
    refine cq 3 [3] [I (ac (r16+1))] 193 ?_
    exact rf [0,1,2,3] [] (j5 _ (al h) :)
   ·refine aq 1 ?_
    exact rf [0,1,2,3] [] (j5 _ (al h) :)
theorem Sb {G:cD}:ct G 130 Bx:=gT 4 0 (bb G1 (bb R6 bP)) cJ Tryz.func130 (fun a r h=>U3 a.1 a.2.1 a.2.2.1 a.2.2.2 r h)
def EH:(ae×ae)→List V:=cA str (oA str)
def EI (r:(List ae)):V×List V:=(.usl 1 (r.map str),[])
noncomputable def Bw :=bA [false,false] EH EI fun x=>Bv x.1 x.2
theorem ZZ {s_1:ae}{eb:ae}{r}(h:Bv s_1 eb=some r):Bw.F (EH (s_1,eb))=some (EI r):=aV (aY bT (aW bT)) h
noncomputable def Z1 :=aQ Tryz.f110
noncomputable def R9 :=cI [(130,Bx)]
def Z0 (x:ae×ae)(r:(List ae)):St→Prop:=QF R9 Tryz.f110 [false,false] (EH x) (EI r)
theorem U2 (s_1:ae)(eb:ae)(r:(List ae))(h:Bv s_1 eb=some r):bN R9 Tryz.f110 [false,false] 0 (EH (s_1,eb)) (EI r):=by
 show Run _ _ (Z0 (s_1,eb) r) [.code Z1] _
 refine rI 8 [(0,str s_1),(1,str eb)] [] 1 ?_
 unfold Bv at h
 refine cq 8 [5,6] [str s_1,str eb] 49 ?_
 obtain⟨r3,hr3,h⟩:=bS h
 refine oq 65 (.hs 49 0 [] 1 0 (r3.map str).length) rfl (cP (Z2 hr3)) ?_
 refine cq 2 [4] [.hs 49 0 [] 1 0 (r3.map str).length] 81 ?_
 obtain rfl:=sI h
 exact bR rfl ⟨_,fin (vs:=[.hs 49 0 [] 1 0 (r3.map str).length]) rfl (d6 (gt rfl (eg rfl rfl)) cX) rfl (bH (bH d4)),dX⟩
theorem Sa {G:cD}:ct G 110 Bw:=gT 2 0 (bb Sb bP) cJ Tryz.func110 (fun a r h=>U2 a.1 a.2 r h)
def Da:((List ae)×ae)→List V:=cA (jX str) (oA str)
def Db (r:Int):V×List V:=(I r,[])
noncomputable def AI :=bA [false,false] Da Db fun x=>AH x.1 x.2
theorem Zh {s_1:List ae}{v_2:ae}{r}(h:AH s_1 v_2=some r):AI.F (Da (s_1,v_2))=some (Db r):=aV (aY (ek bT) (aW bT)) h
noncomputable def QV :=aQ Tryz.f111
noncomputable def Jl :=cI []
def QU (x:(List ae)×ae)(r:Int):St→Prop:=QF Jl Tryz.f111 [false,false] (Da x) (Db r)
theorem LO (s_1:List ae)(v_2:ae):cf Jl 0 (QU (s_1,v_2)) (cL (cL (cR (cL (cR QV))))) 0 (qr s_1 v_2) (fun u=>(sT 19 [] [] 1)) fun x3=>(sT 19 [(0,.isl false (s_1.map str)),(1,str v_2),(7,I (len s_1)),(8,I x3)] [] 1):=eu (yS s_1 v_2) fun {Q K} hK self ih x3 y h hr hn=>by
 unfold lb at h
 refine cq 5 [9] [B (decide (x3<(len s_1)))] 17 ?_
 refine sq h ?_ ?_<;>intro h
 ·refine aq 1 ?_
  refine cq 12 [5,11,12,13] [I x3,str v_2,.isl false (s_1.map str),I x3] 97 ?_
  obtain⟨e4,he4,h⟩:=bS h
  refine oq 113 (.iptr (str e4) 0) rfl (ah rfl rfl rfl (cp rfl rfl rfl rfl he4)) ?_
  refine cq 3 [16] [B (v_2==e4)] 145 ?_
  refine sq h ?_ ?_<;>intro h
  ·refine cq 5 [4] [I x3] 177 ?_
   exact bR rfl (hr _ (al h) _ (qp [I x3]))
  ·refine aq 1 ?_
   refine cq 5 [8] [I (ac (x3+1))] 177 ?_
   refine dm ?_
   exact rf [0,1,7,8] [] (ih _ _ h hr hn :)
 ·refine aq 1 ?_
  exact rf [] [] (hn _ (al h) :) (hk:=hK)
theorem Ui (s_1:List ae)(v_2:ae)(r:Int)(h:AH s_1 v_2=some r):bN Jl Tryz.f111 [false,false] 0 (Da (s_1,v_2)) (Db r):=by
 show Run _ _ (QU (s_1,v_2) r) [.code QV] _
 refine rI 19 [(0,.isl false (s_1.map str)),(1,str v_2)] [] 1 ?_
 unfold AH at h
 refine cq 8 [6] [.isl false (s_1.map str)] 33 ?_
 refine oq 49 (I (len s_1)) rfl (cg rfl rfl rfl (du rfl)) ?_
 refine cq 3 [8] [I (0)] 65 ?_
 obtain⟨y5,hy5,hy51,hy52⟩:=bJ h
 refine bO rfl ?_
 refine rf [0,1,7,8] [] (LO s_1 v_2 rfl 0 _ hy5 (fun r' e st hq=>by rw[hy51 r' e] at hq;exact hq) fun u5 hu=>?_)
 replace h:=hy52 u5 hu
 refine cq 4 [4] [I (-1)] 17 ?_
 obtain rfl:=sI h
 exact rP [I (-1)]
theorem QW {G:cD}:ct G 111 AI:=gT 2 0 bP cJ Tryz.func111 (fun a r h=>Ui a.1 a.2 r h)
def C6:((List ae)×ae)→List V:=cA (jX str) (oA str)
def C7 (r:Bool):V×List V:=(B r,[])
noncomputable def uw :=bA [false,false] C6 C7 fun x=>sx x.1 x.2
theorem QQ {s_1:List ae}{v_2:ae}{r}(h:sx s_1 v_2=some r):uw.F (C6 (s_1,v_2))=some (C7 r):=aV (aY (ek bT) (aW bT)) h
noncomputable def Zf :=aQ Tryz.f93
noncomputable def QP :=cI [(111,AI)]
def Ze (x:(List ae)×ae)(r:Bool):St→Prop:=QF QP Tryz.f93 [false,false] (C6 x) (C7 r)
theorem Ug (s_1:List ae)(v_2:ae)(r:Bool)(h:sx s_1 v_2=some r):bN QP Tryz.f93 [false,false] 0 (C6 (s_1,v_2)) (C7 r):=by
 show Run _ _ (Ze (s_1,v_2) r) [.code Zf] _
 refine rI 9 [(0,.isl false (s_1.map str)),(1,str v_2)] [] 1 ?_
 unfold sx at h
 refine cq 8 [5,6] [.isl false (s_1.map str),str v_2] 49 ?_
 obtain⟨r3,hr3,h⟩:=bS h
 refine oq 65 (I r3) rfl (cP (Zh hr3)) ?_
 refine cq 3 [4] [B (decide (r3≥0))] 97 ?_
 obtain rfl:=sI h
 exact rP [B (decide (r3≥0))]
theorem GW {G:cD}:ct G 93 uw:=gT 2 0 (bb QW bP) cJ Tryz.func93 (fun a r h=>Ug a.1 a.2 r h)
def Ia:ae→List V:=oA str
def Ic (r:Bool):V×List V:=(B r,[])
noncomputable def tQ :=bA [false] Ia Ic fun x=>wC x
theorem Ib {s_1:ae}{r}(h:wC s_1=some r):tQ.F (Ia s_1)=some (Ic r):=aV (aW bT) h
noncomputable def xO :=aQ Tryz.f92
noncomputable abbrev qK :=cL (cL (cR (cL (cR (cR xO)))))
noncomputable abbrev EO :=cR (cR (cR qK))
noncomputable abbrev EP :=cR (cR (cR (cL (cL (cR (cR qK))))))
noncomputable def pW :=cI [(63,nr),(110,Bw),(93,uw)]
def rU (x:ae)(r:Bool):St→Prop:=QF pW Tryz.f92 [false] (Ia x) (Ic r)
theorem Ou (s_1:ae):cf pW 0 (rU s_1) qK 0 (wD s_1) (fun u=>(sT 46 [(0,str s_1)] [] 1)) fun x4=>(sT 46 [(0,str s_1),(20,I (len s_1)),(21,I x4)] [] 1):=eu (EQ s_1) fun {Q K} hK self ih x4 y h hr hn=>by
 unfold oL at h
 refine cq 5 [22] [B (decide (x4<(len s_1)))] 17 ?_
 refine sq h ?_ ?_<;>intro h
 ·refine aq 1 ?_
  refine cq 11 [24,25] [str s_1,I x4] 81 ?_
  obtain⟨c5,hc5,h⟩:=bS h
  refine oq 97 (.int .u8 (c5.toNat:Int)) rfl (l7 rfl rfl (qc rfl rfl hc5)) ?_
  refine cq 7 [4,29] [.int .u8 (c5.toNat:Int),B (decide ((c5.toNat:Int)<97))] 161 ?_
  obtain⟨u6,hu6,h⟩:=lJ h
  have j6:Run pW 0 Q (.code EP::.blk 1::.code EO::.lp qK::.blk 0::K) (sT 46 [(0,str s_1),(20,I (len s_1)),(21,I x4),(40,B u6)] [] 1):=by
   refine sq h ?_ ?_<;>intro h
   ·refine cq 4 [2] [B false] 17 ?_
    exact bR rfl (hr _ (al h) _ (qp [B false]))
   ·refine aq 1 ?_
    refine cq 5 [21] [I (ac (x4+1))] 33 ?_
    refine dm ?_
    exact rf [0,20,21] [] (ih _ _ h hr hn :)
  replace h:=hu6
  clear hu6
  refine sp 29 h rfl ?_ ?_<;>intro h
  ·refine cq 7 [33,36] [B true,B (decide ((c5.toNat:Int)<48))] 273 ?_
   obtain⟨u7,hu7,h⟩:=lJ h
   have j7:Run pW 0 Q (.code EP::.blk 1::.code EO::.lp qK::.blk 0::K) (sT 46 [(0,str s_1),(20,I (len s_1)),(21,I x4),(40,B u7)] [] 1):=by
    subst h
    exact rf [0,20,21,40] [] (j6 :)
   replace h:=hu7
   clear hu7
   refine sp 36 h rfl ?_ ?_<;>intro h
   ·refine cq 5 [40] [B true] 337 ?_
    subst h
    exact rf [0,20,21,40] [] (j7 :)
   ·refine cq 5 [40] [B (decide ((c5.toNat:Int)>57))] 337 ?_
    subst h
    exact rf [0,20,21,40] [] (j7 :)
  ·refine cq 4 [33] [B (decide ((c5.toNat:Int)>122))] 225 ?_
   obtain⟨u8,hu8,h⟩:=lJ h
   have j8:Run pW 0 Q (.code EP::.blk 1::.code EO::.lp qK::.blk 0::K) (sT 46 [(0,str s_1),(20,I (len s_1)),(21,I x4),(40,B u8)] [] 1):=by
    subst h
    exact rf [0,20,21,40] [] (j6 :)
   replace h:=hu8
   clear hu8
   refine sp 33 h rfl ?_ ?_<;>intro h
   ·refine cq 3 [36] [B (decide ((c5.toNat:Int)<48))] 273 ?_
    obtain⟨u9,hu9,h⟩:=lJ h
    have j9:Run pW 0 Q (.code EP::.blk 1::.code EO::.lp qK::.blk 0::K) (sT 46 [(0,str s_1),(20,I (len s_1)),(21,I x4),(40,B u9)] [] 1):=by
     subst h
     exact rf [0,20,21,40] [] (j8 :)
    replace h:=hu9
    clear hu9
    refine sp 36 h rfl ?_ ?_<;>intro h
    ·refine cq 5 [40] [B true] 337 ?_
     subst h
     exact rf [0,20,21,40] [] (j9 :)
    ·refine cq 5 [40] [B (decide ((c5.toNat:Int)>57))] 337 ?_
     subst h
     exact rf [0,20,21,40] [] (j9 :)
   ·refine cq 8 [40] [B false] 337 ?_
    subst h
    exact rf [0,20,21,40] [] (j8 :)
 ·refine aq 1 ?_
  exact rf [0] [] (hn _ (al h) :) (hk:=hK)
theorem Xx (s_1:ae)(r:Bool)(h:wC s_1=some r):bN pW Tryz.f92 [false] 0 (Ia s_1) (Ic r):=by
 show Run _ _ (rU s_1 r) [.code xO] _
 refine rI 46 [(0,str s_1)] [] 1 ?_
 unfold wC at h
 refine cq 9 [6] [I (len s_1)] 49 ?_
 obtain⟨r2,hr2,h⟩:=bS h
 refine oq 65 (B r2) rfl (cP (nN hr2)) ?_
 refine cq 2 [9] [B (!r2)] 97 ?_
 obtain⟨y3,hy3,hy31,hy32⟩:=bJ h
 have j3:∀u3,y3=.inr u3→Run pW 0 (rU s_1 r) (.code (cR (cL (cR xO)))::.code (cR (cR xO))::[]) (sT 46 [(0,str s_1),(18,B u3)] [] 1):=by
  intro u3 hu
  replace h:=hy32 u3 hu
  refine sq h ?_ ?_<;>intro h
  ·refine cq 4 [2] [B false] 17 ?_
   obtain rfl:=sI h
   exact rP [B false]
  ·refine aq 1 ?_
   refine cq 8 [20,21] [I (len s_1),I (0)] 49 ?_
   obtain⟨y10,hy10,hy101,hy102⟩:=bJ h
   refine bO rfl ?_
   refine rf [0,20,21] [] (Ou s_1 rfl 0 _ hy10 (fun r' e st hq=>by rw[hy101 r' e] at hq;exact hq) fun u10 hu=>?_)
   replace h:=hy102 u10 hu
   refine aq 2 ?_
   obtain⟨r11,hr11,h⟩:=bS h
   refine oq 17 (.hs 1 0 [] 1 0 (r11.map str).length) rfl (cP (ZZ hr11)) ?_
   refine cq 1 [43] [str s_1] 33 ?_
   obtain⟨r12,hr12,h⟩:=bS h
   refine oq 49 (B r12) rfl (bC rfl rfl (bW rfl rfl rfl (ba (ul rfl rfl (f9 (f:=str) (g:=str) (xs:=r11) rfl rfl (eh nC))) (ba (bl rfl) cS)) (QQ hr12) (.inl rfl) dE rfl rfl rfl)) ?_
   refine cq 3 [2] [B (!r12)] 81 ?_
   obtain rfl:=sI h
   exact rP [B (!r12)]
 have r3:∀r',y3=.inl r'→∀st,rU s_1 r' st→(rU s_1 r) st:=fun r' e st hq=>by rw[hy31 r' e] at hq;exact hq
 replace h:=hy3
 refine sp 9 h rfl ?_ ?_<;>intro h
 ·refine cq 10 [18] [B true] 241 ?_
  exact rf [0,18] [] (j3 _ (al h) :)
 ·refine cq 1 [10] [str s_1] 113 ?_
  obtain⟨c13,hc13,h⟩:=bS h
  refine oy 129 (.int .u8 (c13.toNat:Int)) rfl (l7 rfl rfl (qc rfl rfl hc13)) ?_
  refine cq 3 [14] [B (decide ((c13.toNat:Int)<97))] 177 ?_
  obtain⟨y14,hy14,hy141,hy142⟩:=bL h
  have j14:∀u14,y14=.inr u14→Run pW 0 (rU s_1 r) (.code (cR (cL (cR xO)))::.code (cR (cR xO))::[]) (sT 46 [(0,str s_1),(18,B u14)] [] 1):=by
   intro u14 hu
   replace h:=hy142 u14 hu
   exact rf [0,18] [] (j3 _ (al h) :)
  have r14:∀r',y14=.inl r'→∀st,rU s_1 r' st→(rU s_1 r) st:=fun r' e st hq=>r3 r' (hy141 r' e) st hq
  replace h:=hy14
  refine sp 14 h rfl ?_ ?_<;>intro h
  ·refine cq 5 [18] [B true] 241 ?_
   exact rf [0,18] [] (j14 _ (al h) :)
  ·refine cq 1 [15] [str s_1] 193 ?_
   obtain⟨c15,hc15,h⟩:=bS h
   refine oy 209 (.int .u8 (c15.toNat:Int)) rfl (l7 rfl rfl (qc rfl rfl hc15)) ?_
   refine cq 3 [18] [B (decide ((c15.toNat:Int)>122))] 241 ?_
   exact rf [0,18] [] (j14 _ (al h) :)
theorem Bz {G:cD}:ct G 92 tQ:=gT 1 0 (bb oM (bb Sa (bb GW bP))) cJ Tryz.func92 (fun a r h=>Xx a r h)
def Ii:(List ae)→List V:=oA (jX str)
def Ik (r:Bool):V×List V:=(B r,[])
noncomputable def Gf :=bA [false] Ii Ik fun x=>J0 x
theorem aaT {aI:List ae}{r}(h:J0 aI=some r):Gf.F (Ii aI)=some (Ik r):=aV (aW (ek bT)) h
noncomputable def EV :=aQ Tryz.f62
noncomputable def Ij :=cI [(92,tQ),(93,uw),(63,nr)]
def Ox (x:(List ae))(r:Bool):St→Prop:=QF Ij Tryz.f62 [false] (Ii x) (Ik r)
theorem Oy (aI:List ae):cf Ij 0 (Ox aI) (cL (cL (cR (cL (cR EV))))) 0 (wE aI) (fun u=>(sT 26 [(0,.isl false (aI.map str))] [] 1)) fun x2=>(sT 26 [(0,.isl false (aI.map str)),(5,.isl false (aI.map str)),(6,I (len aI)),(7,I x2)] [] 1):=eu (EW aI) fun {Q K} hK self ih x2 y h hr hn=>by
 unfold mP at h
 refine cq 5 [8] [B (decide (x2<(len aI)))] 17 ?_
 refine sq h ?_ ?_<;>intro h
 ·refine aq 1 ?_
  refine cq 5 [9] [I x2] 33 ?_
  obtain⟨e3,he3,h⟩:=bS h
  refine oq 49 (.iptr (str e3) 0) rfl (ah rfl rfl rfl (cp rfl rfl rfl rfl he3)) ?_
  refine cq 7 [3,4,12] [I x2,str e3,str e3] 113 ?_
  obtain⟨r4,hr4,h⟩:=bS h
  refine oq 129 (B r4) rfl (cP (Ib hr4)) ?_
  refine cq 2 [15] [B (!r4)] 161 ?_
  obtain⟨y5,hy5,hy51,hy52⟩:=bL h
  have j5:∀u5,y5=.inr u5→Run Ij 0 Q (.code (cR (cR (cL (cL (cR (cR (cL (cL (cR (cL (cR EV)))))))))))::.blk 1::.code (cR (cR (cR (cL (cL (cR (cL (cR EV))))))))::.lp (cL (cL (cR (cL (cR EV)))))::.blk 0::K) (sT 26 [(0,.isl false (aI.map str)),(5,.isl false (aI.map str)),(6,I (len aI)),(7,I x2),(21,B u5)] [] 1):=by
   intro u5 hu
   replace h:=hy52 u5 hu
   refine sq h ?_ ?_<;>intro h
   ·refine cq 4 [2] [B false] 17 ?_
    exact bR rfl (hr _ (al h) _ (qp [B false]))
   ·refine aq 1 ?_
    refine cq 5 [7] [I (ac (x2+1))] 33 ?_
    refine dm ?_
    exact rf [0,5,6,7] [] (ih _ _ h hr hn :)
  have r5:∀r',y5=.inl r'→∀st,Ox aI r' st→Q st:=fun r' e st hq=>hr r' (hy51 r' e) st hq
  replace h:=hy5
  refine sp 15 h rfl ?_ ?_<;>intro h
  ·refine cq 7 [21] [B true] 257 ?_
   exact rf [0,5,6,7,21] [] (j5 _ (al h) :)
  ·refine cq 2 [16,17] [.isl false (aI.map str),I x2] 193 ?_
   obtain⟨s6,hs6,h⟩:=bS h
   refine oy 209 (.isl false (s6.map str)) rfl (gI rfl rfl rfl rfl (Tk rfl rfl (fun y=>(lR y).1) rfl rfl hs6)) ?_
   refine cq 1 [19] [str e3] 225 ?_
   obtain⟨r7,hr7,h⟩:=bS h
   refine oy 241 (B r7) rfl (cP (QQ hr7)) ?_
   refine cq 2 [21] [B r7] 257 ?_
   exact rf [0,5,6,7,21] [] (j5 _ (al h) :)
 ·refine aq 1 ?_
  exact rf [0] [] (hn _ (al h) :) (hk:=hK)
theorem XB (aI:List ae)(r:Bool)(h:J0 aI=some r):bN Ij Tryz.f62 [false] 0 (Ii aI) (Ik r):=by
 show Run _ _ (Ox aI r) [.code EV] _
 refine rI 26 [(0,.isl false (aI.map str))] [] 1 ?_
 unfold J0 at h
 refine cq 8 [5] [.isl false (aI.map str)] 33 ?_
 refine oq 49 (I (len aI)) rfl (cg rfl rfl rfl (du rfl)) ?_
 refine cq 3 [7] [I (0)] 65 ?_
 obtain⟨y8,hy8,hy81,hy82⟩:=bJ h
 refine bO rfl ?_
 refine rf [0,5,6,7] [] (Oy aI rfl 0 _ hy8 (fun r' e st hq=>by rw[hy81 r' e] at hq;exact hq) fun u8 hu=>?_)
 replace h:=hy82 u8 hu
 refine cq 3 [23] [.isl false (aI.map str)] 17 ?_
 refine oq 33 (I (len aI)) rfl (cg rfl rfl rfl (du rfl)) ?_
 obtain⟨r9,hr9,h⟩:=bS h
 refine oq 49 (B r9) rfl (cP (nN hr9)) ?_
 refine cq 2 [2] [B r9] 65 ?_
 obtain rfl:=sI h
 exact rP [B r9]
theorem U9 {G:cD}:ct G 62 Gf:=gT 1 0 (bb Bz (bb GW (bb oM bP))) cJ Tryz.func62 (fun a r h=>XB a r h)
def Io:(Clause×ae)→List V:=cA aA (oA (fun x:ae=>.iptr (str x) 0))
def Ip (r:Bool):V×List V:=(B r,[])
noncomputable def Gh :=bA [false,false] Io Ip fun x=>Sf x.1 x.2
theorem aaW {x_1:Clause}{a_2:ae}{r}(h:Sf x_1 a_2=some r):Gh.F (Io (x_1,a_2))=some (Ip r):=aV (aY eG (aW (VR bT))) h
noncomputable def aaY :=aQ Tryz.f113
noncomputable def WE :=cI []
def aaX (x:Clause×ae)(r:Bool):St→Prop:=QF WE Tryz.f113 [false,false] (Io x) (Ip r)
theorem XD (x_1:Clause)(a_2:ae)(r:Bool)(h:Sf x_1 a_2=some r):bN WE Tryz.f113 [false,false] 0 (Io (x_1,a_2)) (Ip r):=by
 show Run _ _ (aaX (x_1,a_2) r) [.code aaY] _
 refine rI 8 [(0,aG x_1),(1,.iptr (str a_2) 0)] [] 1 ?_
 unfold Sf at h
 refine cq 13 [3] [B (x_1.Id==a_2)] 113 ?_
 obtain rfl:=sI h
 exact rP [B (x_1.Id==a_2)]
theorem Vb {G:cD}:ct G 113 Gh:=gT 2 0 bP cJ Tryz.func113 (fun a r h=>XD a.1 a.2 r h)
def C8:((List Clause)×ae)→List V:=cA (jX aA) (oA (fun x:ae=>(.fn 113 [.iptr (str x) 0]:V)))
def C9 (r:Int):V×List V:=(I r,[])
noncomputable def AG :=bA [false,false] C8 C9 fun x=>FZ x.1 x.2
theorem Zg {s_1:List Clause}{f_2:ae}{r}(h:FZ s_1 f_2=some r):AG.F (C8 (s_1,f_2))=some (C9 r):=aV (aY (ek eG) (aW (X7 bT))) h
noncomputable def QS :=aQ Tryz.f112
noncomputable def Jk :=cI [(113,Gh)]
def QR (x:(List Clause)×ae)(r:Int):St→Prop:=QF Jk Tryz.f112 [false,false] (C8 x) (C9 r)
theorem LN (s_1:List Clause)(f_2:ae):cf Jk 0 (QR (s_1,f_2)) (cL (cL (cR (cL (cR QS))))) 0 (tv s_1 f_2) (fun u=>(sT 19 [] [] 1)) fun x3=>(sT 19 [(0,.isl false (s_1.map aA)),(1,.fn 113 [.iptr (str f_2) 0]),(7,I (len s_1)),(8,I x3)] [] 1):=eu (yR s_1 f_2) fun {Q K} hK self ih x3 y h hr hn=>by
 unfold nf at h
 refine cq 5 [9] [B (decide (x3<(len s_1)))] 17 ?_
 refine sq h ?_ ?_<;>intro h
 ·refine aq 1 ?_
  refine cq 12 [5,11,12,13] [I x3,.fn 113 [.iptr (str f_2) 0],.isl false (s_1.map aA),I x3] 97 ?_
  obtain⟨e4,he4,h⟩:=bS h
  refine oq 113 (.iptr (aG e4) 0) rfl (ah rfl rfl rfl (cp rfl rfl rfl rfl he4)) ?_
  refine cq 1 [15] [aG e4] 129 ?_
  obtain⟨r5,hr5,h⟩:=bS h
  refine oq 145 (B r5) rfl (cP (aaW hr5)) ?_
  refine aq 1 ?_
  refine sq h ?_ ?_<;>intro h
  ·refine cq 5 [4] [I x3] 177 ?_
   exact bR rfl (hr _ (al h) _ (qp [I x3]))
  ·refine aq 1 ?_
   refine cq 5 [8] [I (ac (x3+1))] 177 ?_
   refine dm ?_
   exact rf [0,1,7,8] [] (ih _ _ h hr hn :)
 ·refine aq 1 ?_
  exact rf [] [] (hn _ (al h) :) (hk:=hK)
theorem Uh (s_1:List Clause)(f_2:ae)(r:Int)(h:FZ s_1 f_2=some r):bN Jk Tryz.f112 [false,false] 0 (C8 (s_1,f_2)) (C9 r):=by
 show Run _ _ (QR (s_1,f_2) r) [.code QS] _
 refine rI 19 [(0,.isl false (s_1.map aA)),(1,.fn 113 [.iptr (str f_2) 0])] [] 1 ?_
 unfold FZ at h
 refine cq 8 [6] [.isl false (s_1.map aA)] 33 ?_
 refine oq 49 (I (len s_1)) rfl (cg rfl rfl rfl (du rfl)) ?_
 refine cq 3 [8] [I (0)] 65 ?_
 obtain⟨y6,hy6,hy61,hy62⟩:=bJ h
 refine bO rfl ?_
 refine rf [0,1,7,8] [] (LN s_1 f_2 rfl 0 _ hy6 (fun r' e st hq=>by rw[hy61 r' e] at hq;exact hq) fun u6 hu=>?_)
 replace h:=hy62 u6 hu
 refine cq 4 [4] [I (-1)] 17 ?_
 obtain rfl:=sI h
 exact rP [I (-1)]
theorem QT {G:cD}:ct G 112 AG:=gT 2 0 (bb Vb bP) cJ Tryz.func112 (fun a r h=>Uh a.1 a.2 r h)
def Il:(Contract×ae)→List V:=cA bn (oA str)
def Im (r:Int):V×List V:=(I r,[])
noncomputable def Gg :=bA [false,false] Il Im fun x=>EX x.1 x.2
theorem WD {c_1:Contract}{fj:ae}{r}(h:EX c_1 fj=some r):Gg.F (Il (c_1,fj))=some (Im r):=aV (aY co (aW bT)) h
noncomputable def aaV :=aQ Tryz.f94
noncomputable def WC :=cI [(112,AG)]
def aaU (x:Contract×ae)(r:Int):St→Prop:=QF WC Tryz.f94 [false,false] (Il x) (Im r)
theorem XC (c_1:Contract)(fj:ae)(r:Int)(h:EX c_1 fj=some r):bN WC Tryz.f94 [false,false] 0 (Il (c_1,fj)) (Im r):=by
 show Run _ _ (aaU (c_1,fj) r) [.code aaV] _
 refine rI 9 [(0,ak c_1),(1,str fj)] [] 1 ?_
 unfold EX at h
 refine ck 11 [6,7] [] [17] [] [.isl false (c_1.Clauses.map aA),.fn 113 [.hp 17 0 [] 1 0 0]] [some ⟨0,1,[str fj]⟩] 97 (by kernel_rfl) ?_
 obtain⟨r3,hr3,h⟩:=bS h
 refine oq 113 (I r3) rfl (bC rfl rfl (bW rfl rfl rfl (ba (bl rfl) (ba (shF (pT (aaA (path:=[]) rfl rfl aw rfl rfl) HB)) cS)) (Zg hr3) (.inl rfl) dE rfl rfl rfl)) ?_
 refine cq 2 [4] [I r3] 129 ?_
 obtain rfl:=sI h
 exact rP [I r3]
theorem Va {G:cD}:ct G 94 Gg:=gT 2 0 (bb QT bP) cJ Tryz.func94 (fun a r h=>XC a.1 a.2 r h)
def Iw:Int→List V:=oA I
def Iy (r:Bool):V×List V:=(B r,[])
noncomputable def Gl :=bA [false] Iw Iy fun x=>tR x
theorem Ix {hY:Int}{r}(h:tR hY=some r):Gl.F (Iw hY)=some (Iy r):=aV (aW bF) h
noncomputable def aa3 :=aQ Tryz.f131
noncomputable def WH :=cI [(63,nr)]
def aa2 (x:Int)(r:Bool):St→Prop:=QF WH Tryz.f131 [false] (Iw x) (Iy r)
theorem XI (hY:Int)(r:Bool)(h:tR hY=some r):bN WH Tryz.f131 [false] 0 (Iw hY) (Iy r):=by
 show Run _ _ (aa2 hY r) [.code aa3] _
 refine rI 5 [(0,I hY)] [] 1 ?_
 unfold tR at h
 refine cq 7 [3] [I hY] 33 ?_
 obtain⟨r2,hr2,h⟩:=bS h
 refine oq 49 (B r2) rfl (cP (nN hr2)) ?_
 refine cq 2 [2] [B r2] 65 ?_
 obtain rfl:=sI h
 exact rP [B r2]
theorem Vf {G:cD}:ct G 131 Gl:=gT 1 0 (bb oM bP) cJ Tryz.func131 (fun a r h=>XI a r h)
def EY:(Condition×Int)→List V:=cA bB (oA I)
def EZ (r:Int):V×List V:=(I r,[])
noncomputable def BB (bg:(Condition×Int)→Option Int):Ent:=bA [false,false] EY EZ bg
theorem Sh (bg:(Condition×Int)→Option Int){x}{r}(h:bg x=some r):(BB bg).F (EY x)=some (EZ r):=aV (aY dH (aW bF)) h
noncomputable def Gi :=BB (aP mD)
theorem aaZ {c_1:Condition}{cM:Int}{r}(h:Sg c_1 cM=some r):Gi.F (EY (c_1,cM))=some (EZ r):=Sh (aP mD) h
noncomputable def uF :=aQ Tryz.f114
noncomputable abbrev pz :=cR (cR (cR (cR (cR uF))))
noncomputable abbrev qL :=cR (cL (cR (cR (cR (cR uF)))))
noncomputable def mC (bg:(Condition×Int)→Option Int):Env:=cI [(114,(BB bg)),(92,tQ),(131,Gl),(63,nr)]
def fz (bg:(Condition×Int)→Option Int)(x:Condition×Int)(r:Int):St→Prop:=QF (mC bg) Tryz.f114 [false,false] (EY x) (EZ r)
theorem Oz (bg:(Condition×Int)→Option Int)(c_1:Condition)(cM:Int):cf (mC bg) 0 (fz bg (c_1,cM)) (cL (cL (cR (cL pz)))) 0 (mr bg c_1 cM) (fun u=>(sT 78 [(1,I u)] [] 1)) fun x5=>(sT 78 [(1,I x5.1),(65,.isl false (c_1.Parts.map aF)),(66,I (len c_1.Parts)),(67,I x5.2)] [] 1):=eu (E0 bg c_1 cM) fun {Q K} hK self ih x5 y h hr hn=>by
 unfold lz at h
 refine cq 5 [68] [B (decide (x5.2<(len c_1.Parts)))] 17 ?_
 refine sq h ?_ ?_<;>intro h
 ·refine aq 1 ?_
  refine aq 4 ?_
  obtain⟨e6,he6,h⟩:=bS h
  refine oq 33 (.iptr (ao e6) 0) rfl (ah rfl rfl rfl (cp rfl rfl (dC e6) rfl he6)) ?_
  refine ck 2 [7,70] [] [49] [] [.hp 49 0 [] 4 0 0,ao e6] [some ⟨0,4,[.agg [I (0),str ([]),I (0),.isl true []]]⟩] 65 (by kernel_rfl) ?_
  refine gJ 49 [.agg [I (0),str ([]),I (0),.usl 4 (([]).map ai)]] rfl rfl (aN (iH (aN (.refl _) (aN (.refl _) (aN (.refl _) (aN (.nil _) fp))))) fp) ?_
  refine ck 6 [71,72] [] [49] [] [ao e6,I x5.1] [some ⟨2,4,[ao e6]⟩] 113 (by kernel_rfl) ?_
  obtain⟨r7,hr7,h⟩:=bS h
  refine oq 129 (I r7) rfl (bC rfl rfl (bW rfl rfl rfl (ba (bl rfl) (ba (bl rfl) cS)) (Sh bg hr7) (.inr rfl) dE rfl rfl rfl)) ?_
  refine cq 7 [1,75] [I r7,B (decide (r7<0))] 177 ?_
  refine sq h ?_ ?_<;>intro h
  ·refine cq 4 [4] [I (-1)] 193 ?_
   exact bR rfl (hr _ (al h) _ (qp [I (-1)]))
  ·refine aq 1 ?_
   refine cq 5 [67] [I (ac (x5.2+1))] 209 ?_
   refine dm ?_
   exact rf [1,65,66,67] [] (ih _ _ h hr hn :)
 ·refine aq 1 ?_
  exact rf [1] [] (hn _ (al h) :) (hk:=hK)
theorem XF (bg:(Condition×Int)→Option Int)(c_1:Condition)(cM:Int)(r:Int)(h:xQ bg c_1 cM=some r):bN (mC bg) Tryz.f114 [false,false] 0 (EY (c_1,cM)) (EZ r):=by
 show Run _ _ (fz bg (c_1,cM) r) [.code uF] _
 refine rI 78 [(0,ao c_1),(1,I cM)] [] 1 ?_
 unfold xQ at h
 refine ck 13 [1,2] [] [1] [] [I (ac (cM+1)),.hp 1 0 [] 4 0 0] [some ⟨0,4,[ao c_1]⟩] 81 (by kernel_rfl) ?_
 refine oq 97 (.hs 81 0 [] 1 0 7) rfl (ec rfl (jh (f:=I) (xs:=[]) (z:=I (0)) (es:=[I (-1),I (0),I (0),I (0),I (1),I (2),I (2)]) (ws:=[I (-1),I (0),I (0),I (0),I (1),I (2),I (2)]) rfl rfl rfl (by decide) rfl (dt rfl) rfl)) ?_
 refine cq 4 [5] [.hs 81 0 [] 1 0 7] 113 ?_
 refine cn [0,1,3,7,15,31,63,127,255,511,1023,2047,511,511,8703,29183,61951,131071,262143] rfl (by decide +kernel) ?_
 refine dk 3 [13,12,11] [B (decide ((ac (cM+1))>15)),B (decide ((ac (cM+1))>15)),I (ac (cM+1))] ?_
 obtain⟨y3,hy3,hy31,hy32⟩:=bJ h
 have j3:∀u3,y3=.inr u3→Run (mC bg) 0 (fz bg (c_1,cM) r) (.code (cR (cL (cR (cR (cR uF)))))::.code (cR (cR (cR (cR uF))))::[]) (sT 78 [(1,I (ac (cM+1))),(2,.hp 1 0 [] 4 0 0),(29,B u3)] [⟨0,4,[ao c_1]⟩] 2):=by
  intro u3 hu
  replace h:=hy32 u3 hu
  refine sq h ?_ ?_<;>intro h
  ·refine cq 4 [4] [I (-1)] 18 ?_
   obtain rfl:=sI h
   exact rP [I (-1)]
  ·refine aq 1 ?_
   refine cq 11 [37] [B (!((c_1.Op==2)==(!(c_1.Name==([]:ae)))))] 130 ?_
   obtain⟨y4,hy4,hy41,hy42⟩:=bJ h
   have j4:∀u4,y4=.inr u4→Run (mC bg) 0 (fz bg (c_1,cM) r) (.code qL::.code pz::[]) (sT 78 [(1,I (ac (cM+1))),(2,.hp 1 0 [] 4 0 0),(63,B u4)] [⟨0,4,[ao c_1]⟩] 2):=by
    intro u4 hu
    replace h:=hy42 u4 hu
    refine sq h ?_ ?_<;>intro h
    ·refine cq 4 [4] [I (-1)] 18 ?_
     obtain rfl:=sI h
     exact rP [I (-1)]
    ·refine aq 1 ?_
     refine cq 5 [65] [.isl false (c_1.Parts.map aF)] 34 ?_
     refine oq 50 (I (len c_1.Parts)) rfl (cg rfl rfl rfl (du rfl)) ?_
     refine cq 3 [67] [I (0)] 66 ?_
     obtain⟨y8,hy8,hy81,hy82⟩:=bJ h
     refine bO rfl ?_
     refine rf [1,65,66,67] [] (Oz bg c_1 cM rfl ((ac (cM+1)),0) _ hy8 (fun r' e st hq=>by rw[hy81 r' e] at hq;exact hq) fun u8 hu=>?_)
     replace h:=hy82 u8 hu
     refine cq 5 [4] [I u8] 33 ?_
     obtain rfl:=sI h
     exact rP [I u8]
   have r4:∀r',y4=.inl r'→∀st,fz bg (c_1,cM) r' st→(fz bg (c_1,cM) r) st:=fun r' e st hq=>by rw[hy41 r' e] at hq;exact hq
   replace h:=hy4
   refine sp 37 h rfl ?_ ?_<;>intro h
   ·refine cq 27 [63] [B true] 546 ?_
    exact rf [1,2,63] [1] (j4 _ (al h) :)
   ·refine cq 4 [41] [B (c_1.Op==2)] 194 ?_
    obtain⟨y9,hy9,hy91,hy92⟩:=bL h
    have j9:∀u9,y9=.inr u9→Run (mC bg) 0 (fz bg (c_1,cM) r) (.code qL::.code pz::[]) (sT 78 [(1,I (ac (cM+1))),(2,.hp 1 0 [] 4 0 0),(63,B u9)] [⟨0,4,[ao c_1]⟩] 2):=by
     intro u9 hu
     replace h:=hy92 u9 hu
     exact rf [1,2,63] [1] (j4 _ (al h) :)
    have r9:∀r',y9=.inl r'→∀st,fz bg (c_1,cM) r' st→(fz bg (c_1,cM) r) st:=fun r' e st hq=>r4 r' (hy91 r' e) st hq
    replace h:=hy9
    refine sp 41 h rfl ?_ ?_<;>intro h
    ·refine cq 2 [43] [str c_1.Name] 226 ?_
     obtain⟨r10,hr10,h⟩:=bS h
     refine oy 242 (B r10) rfl (cP (Ib hr10)) ?_
     refine cq 4 [48] [B (!r10)] 306 ?_
     obtain⟨y11,hy11,hy111,hy112⟩:=bL h
     have j11:∀u11,y11=.inr u11→Run (mC bg) 0 (fz bg (c_1,cM) r) (.code qL::.code pz::[]) (sT 78 [(1,I (ac (cM+1))),(2,.hp 1 0 [] 4 0 0),(63,B u11)] [⟨0,4,[ao c_1]⟩] 2):=by
      intro u11 hu
      replace h:=hy112 u11 hu
      exact rf [1,2,63] [1] (j9 _ (al h) :)
     have r11:∀r',y11=.inl r'→∀st,fz bg (c_1,cM) r' st→(fz bg (c_1,cM) r) st:=fun r' e st hq=>r9 r' (hy111 r' e) st hq
     replace h:=hy11
     refine sp 48 h rfl ?_ ?_<;>intro h
     ·refine cq 16 [63] [B true] 546 ?_
      exact rf [1,2,63] [1] (j11 _ (al h) :)
     ·refine cq 4 [52] [B (c_1.Op != 3)] 370 ?_
      obtain⟨y12,hy12,hy121,hy122⟩:=bL h
      have j12:∀u12,y12=.inr u12→Run (mC bg) 0 (fz bg (c_1,cM) r) (.code qL::.code pz::[]) (sT 78 [(1,I (ac (cM+1))),(2,.hp 1 0 [] 4 0 0),(63,B u12)] [⟨0,4,[ao c_1]⟩] 2):=by
       intro u12 hu
       replace h:=hy122 u12 hu
       exact rf [1,2,63] [1] (j11 _ (al h) :)
      have r12:∀r',y12=.inl r'→∀st,fz bg (c_1,cM) r' st→(fz bg (c_1,cM) r) st:=fun r' e st hq=>r11 r' (hy121 r' e) st hq
      replace h:=hy12
      refine sp 52 h rfl ?_ ?_<;>intro h
      ·refine cq 6 [58] [B (c_1.Day != 0)] 466 ?_
       obtain⟨y13,hy13,hy131,hy132⟩:=bL h
       have j13:∀u13,y13=.inr u13→Run (mC bg) 0 (fz bg (c_1,cM) r) (.code qL::.code pz::[]) (sT 78 [(1,I (ac (cM+1))),(2,.hp 1 0 [] 4 0 0),(63,B u13)] [⟨0,4,[ao c_1]⟩] 2):=by
        intro u13 hu
        replace h:=hy132 u13 hu
        exact rf [1,2,63] [1] (j12 _ (al h) :)
       have r13:∀r',y13=.inl r'→∀st,fz bg (c_1,cM) r' st→(fz bg (c_1,cM) r) st:=fun r' e st hq=>r12 r' (hy131 r' e) st hq
       replace h:=hy13
       refine sp 58 h rfl ?_ ?_<;>intro h
       ·refine cq 6 [63] [B true] 546 ?_
        exact rf [1,2,63] [1] (j13 _ (al h) :)
       ·refine cq 2 [60] [I c_1.Day] 498 ?_
        obtain⟨r14,hr14,h⟩:=bS h
        refine oy 514 (B r14) rfl (cP (Ix hr14)) ?_
        refine cq 3 [63] [B (!r14)] 546 ?_
        exact rf [1,2,63] [1] (j13 _ (al h) :)
      ·refine cq 8 [58,60] [B false,I c_1.Day] 498 ?_
       obtain⟨r15,hr15,h⟩:=bS h
       refine oy 514 (B r15) rfl (cP (Ix hr15)) ?_
       refine cq 3 [63] [B (!r15)] 546 ?_
       exact rf [1,2,63] [1] (j12 _ (al h) :)
    ·refine cq 11 [48,52] [B false,B (c_1.Op != 3)] 370 ?_
     obtain⟨y16,hy16,hy161,hy162⟩:=bL h
     have j16:∀u16,y16=.inr u16→Run (mC bg) 0 (fz bg (c_1,cM) r) (.code qL::.code pz::[]) (sT 78 [(1,I (ac (cM+1))),(2,.hp 1 0 [] 4 0 0),(63,B u16)] [⟨0,4,[ao c_1]⟩] 2):=by
      intro u16 hu
      replace h:=hy162 u16 hu
      exact rf [1,2,63] [1] (j9 _ (al h) :)
     have r16:∀r',y16=.inl r'→∀st,fz bg (c_1,cM) r' st→(fz bg (c_1,cM) r) st:=fun r' e st hq=>r9 r' (hy161 r' e) st hq
     replace h:=hy16
     refine sp 52 h rfl ?_ ?_<;>intro h
     ·refine cq 6 [58] [B (c_1.Day != 0)] 466 ?_
      obtain⟨y17,hy17,hy171,hy172⟩:=bL h
      have j17:∀u17,y17=.inr u17→Run (mC bg) 0 (fz bg (c_1,cM) r) (.code qL::.code pz::[]) (sT 78 [(1,I (ac (cM+1))),(2,.hp 1 0 [] 4 0 0),(63,B u17)] [⟨0,4,[ao c_1]⟩] 2):=by
       intro u17 hu
       replace h:=hy172 u17 hu
       exact rf [1,2,63] [1] (j16 _ (al h) :)
      have r17:∀r',y17=.inl r'→∀st,fz bg (c_1,cM) r' st→(fz bg (c_1,cM) r) st:=fun r' e st hq=>r16 r' (hy171 r' e) st hq
      replace h:=hy17
      refine sp 58 h rfl ?_ ?_<;>intro h
      ·refine cq 6 [63] [B true] 546 ?_
       exact rf [1,2,63] [1] (j17 _ (al h) :)
      ·refine cq 2 [60] [I c_1.Day] 498 ?_
       obtain⟨r18,hr18,h⟩:=bS h
       refine oy 514 (B r18) rfl (cP (Ix hr18)) ?_
       refine cq 3 [63] [B (!r18)] 546 ?_
       exact rf [1,2,63] [1] (j17 _ (al h) :)
     ·refine cq 8 [58,60] [B false,I c_1.Day] 498 ?_
      obtain⟨r19,hr19,h⟩:=bS h
      refine oy 514 (B r19) rfl (cP (Ix hr19)) ?_
      refine cq 3 [63] [B (!r19)] 546 ?_
      exact rf [1,2,63] [1] (j16 _ (al h) :)
 have r3:∀r',y3=.inl r'→∀st,fz bg (c_1,cM) r' st→(fz bg (c_1,cM) r) st:=fun r' e st hq=>by rw[hy31 r' e] at hq;exact hq
 replace h:=hy3
 refine sp 13 h rfl ?_ ?_<;>intro h
 ·refine dk 16 [29,28,27,26,25,24,23,22,21,20,19,18,17,16,15,14] [B true,.und,.und,.und,.und,.und,.und,.und,.und,.und,B true,B true,.und,.und,.und,.und] ?_
  refine de 417 rfl rfl ?_
  exact rf [1,2,29] [1] (j3 _ (al h) :)
 ·refine dy [1] [] (.hp 1 0 [] 4 0 0) rfl (cW rfl rfl rfl) ?_
  refine dy [1] [] (I c_1.Op) rfl (bm rfl rfl) ?_
  obtain⟨r20,hr20,h⟩:=bS h
  refine dy [] [] (B r20) rfl (cP (nN hr20)) ?_ (dK rfl rfl rfl rfl (ba (bl rfl) (ba (bl rfl) (ba (bl rfl) cS))) (nN hr20) (.inr rfl) rfl)
  refine dk 3 [19,18,17] [B (!r20),B (!r20),B (!r20)] ?_
  obtain⟨y21,hy21,hy211,hy212⟩:=bL h
  have j21:∀u21,y21=.inr u21→Run (mC bg) 0 (fz bg (c_1,cM) r) (.code (cR (cL (cR (cR (cR uF)))))::.code (cR (cR (cR (cR uF))))::[]) (sT 78 [(1,I (ac (cM+1))),(2,.hp 1 0 [] 4 0 0),(29,B u21)] [⟨0,4,[ao c_1]⟩] 2):=by
   intro u21 hu
   replace h:=hy212 u21 hu
   exact rf [1,2,29] [1] (j3 _ (al h) :)
  have r21:∀r',y21=.inl r'→∀st,fz bg (c_1,cM) r' st→(fz bg (c_1,cM) r) st:=fun r' e st hq=>r3 r' (hy211 r' e) st hq
  replace h:=hy21
  refine sp 19 h rfl ?_ ?_<;>intro h
  ·refine dk 10 [29,28,27,26,25,24,23,22,21,20] [B true,.und,.und,.und,.und,.und,.und,.und,.und,.und] ?_
   refine de 417 rfl rfl ?_
   exact rf [1,2,29] [1] (j21 _ (al h) :)
  ·refine dy [1] [] (.hp 1 0 [] 4 0 3) rfl (cW rfl rfl rfl) ?_
   refine dy [1] [] (.isl false (c_1.Parts.map aF)) rfl (bm rfl rfl) ?_
   refine dy [] [] (I (len c_1.Parts)) rfl (cg rfl rfl rfl (du rfl)) ?_
   refine dk 1 [23] [.hs 81 0 [] 1 0 7] ?_
   refine dy [1] [] (.hp 1 0 [] 4 0 0) rfl (cW rfl rfl rfl) ?_
   refine dy [1] [] (I c_1.Op) rfl (bm rfl rfl) ?_
   obtain⟨e22,he22,h⟩:=bS h
   refine dy [81] [] (.hp 81 0 [] 1 (0+Int.toNat c_1.Op) 0) rfl (ah rfl rfl rfl (aL (f:=I) (xs:=[(-1),0,0,0,1,2,2]) rfl rfl rfl he22)) ?_
   refine dy [81] [] (I e22) rfl (bm rfl (bZ (path:=[]) rfl rfl rfl aw (aB (f:=I) (xs:=[(-1),0,0,0,1,2,2]) he22) rfl rfl rfl)) ?_
   refine dk 2 [29,28] [B ((len c_1.Parts) != e22),B ((len c_1.Parts) != e22)] ?_
   refine de 417 rfl rfl ?_
   exact rf [1,2,29] [1] (j21 _ (al h) :)
theorem Vc {G:cD}:ct G 114 Gi:=jt fun bg g_Ffo=>gT 2 0 (bb g_Ffo (bb Bz (bb Vf (bb oM bP)))) cJ Tryz.func114 (fun a r h=>XF bg a.1 a.2 r h)
def H4:Condition→List V:=oA bB
def H5 (r:Bool):V×List V:=(B r,[])
noncomputable def Gb :=bA [false] H4 H5 fun x=>JY x
theorem aaN {c_1:Condition}{r}(h:JY c_1=some r):Gb.F (H4 c_1)=some (H5 r):=aV (aW dH) h
noncomputable def aaP :=aQ Tryz.f95
noncomputable def Wy :=cI [(114,Gi)]
def aaO (x:Condition)(r:Bool):St→Prop:=QF Wy Tryz.f95 [false] (H4 x) (H5 r)
theorem Xv (c_1:Condition)(r:Bool)(h:JY c_1=some r):bN Wy Tryz.f95 [false] 0 (H4 c_1) (H5 r):=by
 show Run _ _ (aaO c_1 r) [.code aaP] _
 refine rI 6 [(0,ao c_1)] [] 1 ?_
 unfold JY at h
 refine cq 8 [3] [ao c_1] 49 ?_
 obtain⟨r2,hr2,h⟩:=bS h
 refine oq 65 (I r2) rfl (cP (aaZ hr2)) ?_
 refine cq 3 [2] [B (decide (r2>0))] 97 ?_
 obtain rfl:=sI h
 exact rP [B (decide (r2>0))]
theorem U5 {G:cD}:ct G 95 Gb:=gT 1 0 (bb Vc bP) cJ Tryz.func95 (fun a r h=>Xv a r h)
def Iu:(Contract×Int)→List V:=cA bn (oA I)
def Iv (r:Bool):V×List V:=(B r,[])
noncomputable def Gk :=bA [false,false] Iu Iv fun x=>J2 x.1 x.2
theorem aa1 {c_1:Contract}{i_2:Int}{r}(h:J2 c_1 i_2=some r):Gk.F (Iu (c_1,i_2))=some (Iv r):=aV (aY co (aW bF)) h
noncomputable def l3 :=aQ Tryz.f64
noncomputable abbrev J4 :=cR (cL (cR (cR (cR (cR l3)))))
noncomputable abbrev wF :=cR (cR (cR (cR (cR (cR l3)))))
noncomputable abbrev E2 :=cR (cL (cR (cR (cR (cR (cR l3))))))
noncomputable abbrev J5 :=cR (cR (cR wF))
noncomputable def jY :=cI [(92,tQ),(63,nr),(94,Gg),(95,Gb)]
def eI (x:Contract×Int)(r:Bool):St→Prop:=QF jY Tryz.f64 [false,false] (Iu x) (Iv r)
theorem XH (c_1:Contract)(i_2:Int)(r:Bool)(h:J2 c_1 i_2=some r):bN jY Tryz.f64 [false,false] 0 (Iu (c_1,i_2)) (Iv r):=by
 show Run _ _ (eI (c_1,i_2) r) [.code l3] _
 refine rI 119 [(0,ak c_1),(1,I i_2)] [] 1 ?_
 unfold J2 at h
 refine ck 10 [2,9,10] [] [1] [] [.hp 1 0 [] 2 0 0,.isl false (c_1.Clauses.map aA),I i_2] [some ⟨0,2,[ak c_1]⟩] 81 (by kernel_rfl) ?_
 obtain⟨e3,he3,h⟩:=bS h
 refine oq 97 (.iptr (aG e3) 0) rfl (ah rfl rfl rfl (cp rfl rfl rfl rfl he3)) ?_
 refine ck 2 [5,12] [] [113] [] [.hp 113 0 [] 12 0 0,aG e3] [some ⟨0,12,[.agg [str ([]),I (0),I (0),str ([]),I (0),I (0),I (0),str ([]),I (0),.isl true [],I (0),str ([])]]⟩] 129 (by kernel_rfl) ?_
 refine gJ 113 [.agg [str ([]),I (0),I (0),str ([]),I (0),I (0),I (0),str ([]),I (0),.usl 4 (([]).map ai),I (0),str ([])]] rfl rfl (aN (iH (aN (.refl _) (aN (.refl _) (aN (.refl _) (aN (.refl _) (aN (.refl _) (aN (.refl _) (aN (.refl _) (aN (.refl _) (aN (.refl _) (aN (.nil _) (aN (.refl _) (aN (.refl _) fp))))))))))))) fp) ?_
 refine ck 6 [14] [] [113] [] [.isl false (c_1.Parties.map str)] [some ⟨2,12,[aG e3]⟩] 177 (by kernel_rfl) ?_
 refine oq 193 (I (len c_1.Parties)) rfl (cg rfl rfl rfl (du rfl)) ?_
 refine cq 8 [6,18] [I (ac ((len c_1.Parties) - 1)),str e3.Id] 257 ?_
 obtain⟨r4,hr4,h⟩:=bS h
 refine oq 273 (B r4) rfl (cP (Ib hr4)) ?_
 refine cq 2 [21] [B (!r4)] 305 ?_
 obtain⟨y5,hy5,hy51,hy52⟩:=bJ h
 have j5:∀u5,y5=.inr u5→Run jY 0 (eI (c_1,i_2) r) (.code (cR (cL (cR (cR (cR l3)))))::.code (cR (cR (cR (cR l3))))::[]) (sT 119 [(1,I i_2),(2,.hp 1 0 [] 2 0 0),(5,.hp 2 0 [] 12 0 0),(6,I (ac ((len c_1.Parties) - 1))),(40,B u5)] [⟨0,2,[ak c_1]⟩,⟨0,12,[aG e3]⟩] 3):=by
  intro u5 hu
  replace h:=hy52 u5 hu
  refine sq h ?_ ?_<;>intro h
  ·refine cq 4 [4] [B false] 19 ?_
   obtain rfl:=sI h
   exact rP [B false]
  ·refine aq 1 ?_
   refine cq 6 [42,43] [I e3.Party,I (ac ((len c_1.Parties) - 1))] 51 ?_
   obtain⟨r6,hr6,h⟩:=bS h
   refine oq 67 (B r6) rfl (cP (nN hr6)) ?_
   refine cq 2 [46] [B (!r6)] 99 ?_
   obtain⟨y7,hy7,hy71,hy72⟩:=bJ h
   have j7:∀u7,y7=.inr u7→Run jY 0 (eI (c_1,i_2) r) (.code J4::.code (cR (cR (cR (cR (cR l3)))))::[]) (sT 119 [(1,I i_2),(2,.hp 1 0 [] 2 0 0),(5,.hp 2 0 [] 12 0 0),(65,B u7)] [⟨0,2,[ak c_1]⟩,⟨0,12,[aG e3]⟩] 3):=by
    intro u7 hu
    replace h:=hy72 u7 hu
    refine sq h ?_ ?_<;>intro h
    ·refine cq 4 [4] [B false] 19 ?_
     obtain rfl:=sI h
     exact rP [B false]
    ·refine aq 1 ?_
     refine cq 5 [67] [I e3.Amount] 35 ?_
     obtain⟨r8,hr8,h⟩:=bS h
     refine oq 51 (B r8) rfl (cP (nN hr8)) ?_
     refine cq 2 [70] [B (!r8)] 83 ?_
     obtain⟨y9,hy9,hy91,hy92⟩:=bJ h
     have j9:∀u9,y9=.inr u9→Run jY 0 (eI (c_1,i_2) r) (.code E2::.code wF::[]) (sT 119 [(1,I i_2),(2,.hp 1 0 [] 2 0 0),(5,.hp 2 0 [] 12 0 0),(90,B u9)] [⟨0,2,[ak c_1]⟩,⟨0,12,[aG e3]⟩] 3):=by
      intro u9 hu
      replace h:=hy92 u9 hu
      refine sq h ?_ ?_<;>intro h
      ·refine cq 4 [4] [B false] 19 ?_
       obtain rfl:=sI h
       exact rP [B false]
      ·refine aq 1 ?_
       refine cq 7 [93] [B (e3.Repair==([]:ae))] 51 ?_
       refine sq h ?_ ?_<;>intro h
       ·refine cq 4 [4] [B true] 67 ?_
        obtain rfl:=sI h
        exact rP [B true]
       ·refine aq 1 ?_
        refine cq 5 [94,96] [ak c_1,str e3.Repair] 99 ?_
        obtain⟨r10,hr10,h⟩:=bS h
        refine oq 115 (I r10) rfl (cP (WD hr10)) ?_
        refine cq 8 [7,101] [I r10,B (e3.Kind != 3)] 195 ?_
        obtain⟨y11,hy11,hy111,hy112⟩:=bJ h
        have j11:∀u11,y11=.inr u11→Run jY 0 (eI (c_1,i_2) r) (.code J5::[]) (sT 119 [(4,B u11)] [] 1):=by
         intro u11 hu
         replace h:=hy112 u11 hu
         obtain rfl:=sI h
         exact rP [B u11]
        have r11:∀r',y11=.inl r'→∀st,eI (c_1,i_2) r' st→(eI (c_1,i_2) r) st:=fun r' e st hq=>by rw[hy111 r' e] at hq;exact hq
        replace h:=hy11
        refine sp 101 h rfl ?_ ?_<;>intro h
        ·refine cq 4 [105] [B (decide (r10≥0))] 259 ?_
         obtain⟨y12,hy12,hy121,hy122⟩:=bL h
         have j12:∀u12,y12=.inr u12→Run jY 0 (eI (c_1,i_2) r) (.code J5::[]) (sT 119 [(4,B u12)] [] 1):=by
          intro u12 hu
          replace h:=hy122 u12 hu
          exact rf [4] [] (j11 _ (al h) :)
         have r12:∀r',y12=.inl r'→∀st,eI (c_1,i_2) r' st→(eI (c_1,i_2) r) st:=fun r' e st hq=>r11 r' (hy121 r' e) st hq
         replace h:=hy12
         refine sp 105 h rfl ?_ ?_<;>intro h
         ·refine cq 5 [110] [B (r10 != i_2)] 339 ?_
          obtain⟨y13,hy13,hy131,hy132⟩:=bL h
          have j13:∀u13,y13=.inr u13→Run jY 0 (eI (c_1,i_2) r) (.code J5::[]) (sT 119 [(4,B u13)] [] 1):=by
           intro u13 hu
           replace h:=hy132 u13 hu
           exact rf [4] [] (j12 _ (al h) :)
          have r13:∀r',y13=.inl r'→∀st,eI (c_1,i_2) r' st→(eI (c_1,i_2) r) st:=fun r' e st hq=>r12 r' (hy131 r' e) st hq
          replace h:=hy13
          refine sp 110 h rfl ?_ ?_<;>intro h
          ·refine cq 3 [112,113] [.isl false (c_1.Clauses.map aA),I r10] 387 ?_
           obtain⟨e14,he14,h⟩:=bS h
           refine oy 403 (.iptr (aG e14) 0) rfl (ah rfl rfl rfl (cp rfl rfl rfl rfl he14)) ?_
           refine cq 6 [4] [B (e14.Kind==1)] 483 ?_
           exact rf [4] [] (j13 _ (al h) :)
          ·refine cq 10 [4] [B false] 483 ?_
           exact rf [4] [] (j13 _ (al h) :)
         ·refine cq 15 [4] [B false] 483 ?_
          exact rf [4] [] (j12 _ (al h) :)
        ·refine cq 19 [4] [B false] 483 ?_
         exact rf [4] [] (j11 _ (al h) :)
     have r9:∀r',y9=.inl r'→∀st,eI (c_1,i_2) r' st→(eI (c_1,i_2) r) st:=fun r' e st hq=>by rw[hy91 r' e] at hq;exact hq
     replace h:=hy9
     refine sp 70 h rfl ?_ ?_<;>intro h
     ·refine cq 21 [90] [B true] 403 ?_
      exact rf [1,2,5,90] [1,2] (j9 _ (al h) :)
     ·refine cq 2 [72] [I e3.Within] 115 ?_
      obtain⟨r15,hr15,h⟩:=bS h
      refine oy 131 (B r15) rfl (cP (nN hr15)) ?_
      refine cq 3 [76] [B (!r15)] 179 ?_
      obtain⟨u16,hu16,h⟩:=lJ h
      have j16:Run jY 0 (eI (c_1,i_2) r) (.code E2::.code wF::[]) (sT 119 [(1,I i_2),(2,.hp 1 0 [] 2 0 0),(5,.hp 2 0 [] 12 0 0),(90,B u16)] [⟨0,2,[ak c_1]⟩,⟨0,12,[aG e3]⟩] 3):=by
       exact rf [1,2,5,90] [1,2] (j9 _ (al h) :)
      replace h:=hu16
      clear hu16
      refine sp 76 h rfl ?_ ?_<;>intro h
      ·refine cq 15 [90] [B true] 403 ?_
       subst h
       exact rf [1,2,5,90] [1,2] (j16 :)
      ·refine cq 4 [80] [B (e3.Kind != 1)] 243 ?_
       obtain⟨u17,hu17,h⟩:=lJ h
       have j17:Run jY 0 (eI (c_1,i_2) r) (.code E2::.code wF::[]) (sT 119 [(1,I i_2),(2,.hp 1 0 [] 2 0 0),(5,.hp 2 0 [] 12 0 0),(90,B u17)] [⟨0,2,[ak c_1]⟩,⟨0,12,[aG e3]⟩] 3):=by
        subst h
        exact rf [1,2,5,90] [1,2] (j16 :)
       replace h:=hu17
       clear hu17
       refine sp 80 h rfl ?_ ?_<;>intro h
       ·refine cq 4 [84] [B (e3.Amount != 0)] 307 ?_
        obtain⟨u18,hu18,h⟩:=lJ h
        have j18:Run jY 0 (eI (c_1,i_2) r) (.code E2::.code wF::[]) (sT 119 [(1,I i_2),(2,.hp 1 0 [] 2 0 0),(5,.hp 2 0 [] 12 0 0),(90,B u18)] [⟨0,2,[ak c_1]⟩,⟨0,12,[aG e3]⟩] 3):=by
         subst h
         exact rf [1,2,5,90] [1,2] (j17 :)
        replace h:=hu18
        clear hu18
        refine sp 84 h rfl ?_ ?_<;>intro h
        ·refine cq 7 [90] [B true] 403 ?_
         subst h
         exact rf [1,2,5,90] [1,2] (j18 :)
        ·refine cq 7 [90] [B (e3.Within != 0)] 403 ?_
         subst h
         exact rf [1,2,5,90] [1,2] (j18 :)
       ·refine cq 11 [90] [B false] 403 ?_
        subst h
        exact rf [1,2,5,90] [1,2] (j17 :)
   have r7:∀r',y7=.inl r'→∀st,eI (c_1,i_2) r' st→(eI (c_1,i_2) r) st:=fun r' e st hq=>by rw[hy71 r' e] at hq;exact hq
   replace h:=hy7
   refine sp 46 h rfl ?_ ?_<;>intro h
   ·refine cq 20 [65] [B true] 403 ?_
    exact rf [1,2,5,65] [1,2] (j7 _ (al h) :)
   ·refine cq 3 [48,49] [I e3.Other,I (ac ((len c_1.Parties) - 1))] 147 ?_
    obtain⟨r19,hr19,h⟩:=bS h
    refine oy 163 (B r19) rfl (cP (nN hr19)) ?_
    refine cq 3 [53] [B (!r19)] 211 ?_
    obtain⟨y20,hy20,hy201,hy202⟩:=bL h
    have j20:∀u20,y20=.inr u20→Run jY 0 (eI (c_1,i_2) r) (.code J4::.code (cR (cR (cR (cR (cR l3)))))::[]) (sT 119 [(1,I i_2),(2,.hp 1 0 [] 2 0 0),(5,.hp 2 0 [] 12 0 0),(65,B u20)] [⟨0,2,[ak c_1]⟩,⟨0,12,[aG e3]⟩] 3):=by
     intro u20 hu
     replace h:=hy202 u20 hu
     exact rf [1,2,5,65] [1,2] (j7 _ (al h) :)
    have r20:∀r',y20=.inl r'→∀st,eI (c_1,i_2) r' st→(eI (c_1,i_2) r) st:=fun r' e st hq=>r7 r' (hy201 r' e) st hq
    replace h:=hy20
    refine sp 53 h rfl ?_ ?_<;>intro h
    ·refine cq 13 [65] [B true] 403 ?_
     exact rf [1,2,5,65] [1,2] (j20 _ (al h) :)
    ·refine cq 7 [60] [B (e3.Party==e3.Other)] 323 ?_
     obtain⟨y21,hy21,hy211,hy212⟩:=bL h
     have j21:∀u21,y21=.inr u21→Run jY 0 (eI (c_1,i_2) r) (.code J4::.code (cR (cR (cR (cR (cR l3)))))::[]) (sT 119 [(1,I i_2),(2,.hp 1 0 [] 2 0 0),(5,.hp 2 0 [] 12 0 0),(65,B u21)] [⟨0,2,[ak c_1]⟩,⟨0,12,[aG e3]⟩] 3):=by
      intro u21 hu
      replace h:=hy212 u21 hu
      exact rf [1,2,5,65] [1,2] (j20 _ (al h) :)
     have r21:∀r',y21=.inl r'→∀st,eI (c_1,i_2) r' st→(eI (c_1,i_2) r) st:=fun r' e st hq=>r20 r' (hy211 r' e) st hq
     replace h:=hy21
     refine sp 60 h rfl ?_ ?_<;>intro h
     ·refine cq 6 [65] [B true] 403 ?_
      exact rf [1,2,5,65] [1,2] (j21 _ (al h) :)
     ·refine cq 2 [62] [ao e3.When] 355 ?_
      obtain⟨r22,hr22,h⟩:=bS h
      refine oy 371 (B r22) rfl (cP (aaN hr22)) ?_
      refine cq 3 [65] [B (!r22)] 403 ?_
      exact rf [1,2,5,65] [1,2] (j21 _ (al h) :)
 have r5:∀r',y5=.inl r'→∀st,eI (c_1,i_2) r' st→(eI (c_1,i_2) r) st:=fun r' e st hq=>by rw[hy51 r' e] at hq;exact hq
 replace h:=hy5
 refine sp 21 h rfl ?_ ?_<;>intro h
 ·refine cq 20 [40] [B true] 609 ?_
  exact rf [1,2,5,6,40] [1,113] (j5 _ (al h) :)
 ·refine cq 3 [22,24] [ak c_1,str e3.Id] 353 ?_
  obtain⟨r23,hr23,h⟩:=bS h
  refine oy 369 (I r23) rfl (cP (WD hr23)) ?_
  refine cq 4 [29] [B (r23 != i_2)] 433 ?_
  obtain⟨y24,hy24,hy241,hy242⟩:=bL h
  have j24:∀u24,y24=.inr u24→Run jY 0 (eI (c_1,i_2) r) (.code (cR (cL (cR (cR (cR l3)))))::.code (cR (cR (cR (cR l3))))::[]) (sT 119 [(1,I i_2),(2,.hp 1 0 [] 2 0 0),(5,.hp 2 0 [] 12 0 0),(6,I (ac ((len c_1.Parties) - 1))),(40,B u24)] [⟨0,2,[ak c_1]⟩,⟨0,12,[aG e3]⟩] 3):=by
   intro u24 hu
   replace h:=hy242 u24 hu
   exact rf [1,2,5,6,40] [1,2] (j5 _ (al h) :)
  have r24:∀r',y24=.inl r'→∀st,eI (c_1,i_2) r' st→(eI (c_1,i_2) r) st:=fun r' e st hq=>r5 r' (hy241 r' e) st hq
  replace h:=hy24
  refine sp 29 h rfl ?_ ?_<;>intro h
  ·refine cq 12 [40] [B true] 609 ?_
   exact rf [1,2,5,6,40] [1,113] (j24 _ (al h) :)
  ·refine cq 2 [31] [str e3.Action] 465 ?_
   obtain⟨r25,hr25,h⟩:=bS h
   refine oy 481 (B r25) rfl (cP (Ib hr25)) ?_
   refine cq 3 [35] [B (!r25)] 529 ?_
   obtain⟨y26,hy26,hy261,hy262⟩:=bL h
   have j26:∀u26,y26=.inr u26→Run jY 0 (eI (c_1,i_2) r) (.code (cR (cL (cR (cR (cR l3)))))::.code (cR (cR (cR (cR l3))))::[]) (sT 119 [(1,I i_2),(2,.hp 1 0 [] 2 0 0),(5,.hp 2 0 [] 12 0 0),(6,I (ac ((len c_1.Parties) - 1))),(40,B u26)] [⟨0,2,[ak c_1]⟩,⟨0,12,[aG e3]⟩] 3):=by
    intro u26 hu
    replace h:=hy262 u26 hu
    exact rf [1,2,5,6,40] [1,2] (j24 _ (al h) :)
   have r26:∀r',y26=.inl r'→∀st,eI (c_1,i_2) r' st→(eI (c_1,i_2) r) st:=fun r' e st hq=>r24 r' (hy261 r' e) st hq
   replace h:=hy26
   refine sp 35 h rfl ?_ ?_<;>intro h
   ·refine cq 6 [40] [B true] 609 ?_
    exact rf [1,2,5,6,40] [1,113] (j26 _ (al h) :)
   ·refine cq 2 [37] [I e3.Kind] 561 ?_
    obtain⟨r27,hr27,h⟩:=bS h
    refine oy 577 (B r27) rfl (cP (nN hr27)) ?_
    refine cq 3 [40] [B (!r27)] 609 ?_
    exact rf [1,2,5,6,40] [1,113] (j26 _ (al h) :)
theorem Ve {G:cD}:ct G 64 Gk:=gT 2 0 (bb Bz (bb oM (bb Va (bb U5 bP)))) cJ Tryz.func64 (fun a r h=>XH a.1 a.2 r h)
def ER:(Condition×(List ae))→List V:=cA bB (oA (kM 1 str))
def ET (r:(List ae)):V×List V:=(.usl 1 (r.map str),[.dead])
noncomputable def BA (cH:(Condition×(List ae))→Option (List ae)):Ent:=bA [false,true] ER ET cH
theorem Se (cH:(Condition×(List ae))→Option (List ae)){x}{r}(h:cH x=some r):(BA cH).F (ER x)=some (ET r):=aV (aY dH (aW (eL bT))) h
noncomputable def Ge :=BA (aP nK)
theorem WB {c_3:Condition}{dU:List ae}{r}(h:Sd c_3 dU=some r):Ge.F (ER (c_3,dU))=some (ET r):=Se (aP nK) h
noncomputable def Ov :=aQ Tryz.f69
noncomputable def Ih (cH:(Condition×(List ae))→Option (List ae)):Env:=cI [(69,(BA cH))]
def ES (cH:(Condition×(List ae))→Option (List ae))(x:Condition×(List ae))(r:(List ae)):St→Prop:=QF (Ih cH) Tryz.f69 [false,true] (ER x) (ET r)
theorem Ow (cH:(Condition×(List ae))→Option (List ae))(c_3:Condition)(dU:List ae):cf (Ih cH) 1 (ES cH (c_3,dU)) (cL (cL (cR (cL (cR (cR Ov)))))) 0 (nL cH c_3 dU) (fun u=>(sO 27 [(1,.hs 2 0 [] 1 0 (u.map str).length)] [none,some ⟨0,1,u.map str⟩] 3)) fun x4=>(sO 27 [(1,.hs 2 0 [] 1 0 (x4.2.map str).length),(16,.isl false (c_3.Parts.map aF)),(17,I (len c_3.Parts)),(18,I x4.1)] [none,some ⟨0,1,x4.2.map str⟩] 3):=eu (EU cH c_3 dU) fun {Q K} hK self ih x4 y h hr hn=>by
 unfold ly at h
 refine cq 5 [19] [B (decide (x4.1<(len c_3.Parts)))] 19 ?_
 refine sq h ?_ ?_<;>intro h
 ·refine aq 1 ?_
  refine aq 4 ?_
  obtain⟨e5,he5,h⟩:=bS h
  refine oq 35 (.iptr (ao e5) 0) rfl (ah rfl rfl rfl (cp rfl rfl (dC e5) rfl he5)) ?_
  refine ck 2 [6,21] [] [51] [] [.hp 51 0 [] 4 0 0,ao e5] [some ⟨0,4,[.agg [I (0),str ([]),I (0),.isl true []]]⟩] 67 (by kernel_rfl) ?_
  refine gJ 51 [.agg [I (0),str ([]),I (0),.usl 4 (([]).map ai)]] rfl rfl (aN (iH (aN (.refl _) (aN (.refl _) (aN (.refl _) (aN (.nil _) fp))))) fp) ?_
  refine ck 5 [22,23] [] [51] [] [ao e5,.hs 2 0 [] 1 0 (x4.2.map str).length] [some ⟨2,4,[ao e5]⟩] 115 (by kernel_rfl) ?_
  obtain⟨r6,hr6,h⟩:=bS h
  refine oq 131 (.hs 115 0 [] 1 0 (r6.map str).length) rfl (bC rfl rfl (bW rfl rfl rfl (ba (bl rfl) (gm (ge rfl (eP (path:=[]) rfl rfl aw rfl)) cS)) (Se cH hr6) (.inr rfl) (fi rfl rfl rfl kB dE) rfl rfl rfl)) ?_
  refine cq 7 [1,18] [.hs 115 0 [] 1 0 (r6.map str).length,I (ac (x4.1+1))] 179 ?_
  refine dm ?_
  exact rg [1,16,17,18] [180,115] (ih _ _ h hr hn :)
 ·refine aq 1 ?_
  exact rg [1] [20,2] (hn _ (al h) :) (hk:=hK)
theorem XA (cH:(Condition×(List ae))→Option (List ae))(c_3:Condition)(dU:List ae)(r:(List ae))(h:xP cH c_3 dU=some r):bN (Ih cH) Tryz.f69 [false,true] 1 (ER (c_3,dU)) (ET r):=by
 show Run _ _ (ES cH (c_3,dU) r) [.code Ov] _
 refine rI 27 [(0,ao c_3),(1,.hs 1 0 [] 1 0 (dU.map str).length)] [(1,some ⟨0,1,dU.map str⟩)] 2 ?_
 unfold xP at h
 refine ck 12 [2,9] [] [2] [] [.hp 2 0 [] 4 0 0,B (c_3.Op==2)] [some ⟨0,4,[ao c_3]⟩] 82 (by kernel_rfl) ?_
 obtain⟨y3,hy3,hy31,hy32⟩:=bJ h
 have j3:∀u3,y3=.inr u3→Run (Ih cH) 1 (ES cH (c_3,dU) r) (.code (cR (cR Ov))::[]) (sO 27 [(1,.hs 2 0 [] 1 0 (u3.map str).length),(2,.hp 3 0 [] 4 0 0)] [none,some ⟨0,1,u3.map str⟩,some ⟨0,4,[ao c_3]⟩] 4):=by
  intro u3 hu
  replace h:=hy32 u3 hu
  refine cq 5 [16] [.isl false (c_3.Parts.map aF)] 36 ?_
  refine oq 52 (I (len c_3.Parts)) rfl (cg rfl rfl rfl (du rfl)) ?_
  refine cq 3 [18] [I (0)] 68 ?_
  obtain⟨y7,hy7,hy71,hy72⟩:=bJ h
  refine bO rfl ?_
  refine rg [1,16,17,18] [69,2] (Ow cH c_3 dU rfl (0,u3) _ hy7 (fun r' e st hq=>by rw[hy71 r' e] at hq;exact hq) fun u7 hu=>?_)
  replace h:=hy72 u7 hu
  refine cq 5 [4] [.hs 2 0 [] 1 0 (u7.map str).length] 35 ?_
  obtain rfl:=sI h
  exact bR rfl ⟨_,fin (vs:=[.hs 2 0 [] 1 0 (u7.map str).length]) rfl (d6 (gt rfl (eg rfl rfl)) cX) rfl (bH (fy rfl (kJ rfl) d4)),oZ dX⟩
 have r3:∀r',y3=.inl r'→∀st,ES cH (c_3,dU) r' st→(ES cH (c_3,dU) r) st:=fun r' e st hq=>by rw[hy31 r' e] at hq;exact hq
 replace h:=hy3
 refine sq h ?_ ?_<;>intro h
 ·refine cq 4 [10,12] [.hs 1 0 [] 1 0 (dU.map str).length,str c_3.Name] 130 ?_
  refine oq 146 (.hs 130 0 [] 1 0 1) rfl (ec rfl (jh (f:=I) (xs:=[]) (z:=str ([])) (es:=[str c_3.Name]) (ws:=[str c_3.Name]) rfl rfl rfl (by decide) rfl (dt rfl) rfl)) ?_
  obtain⟨a8,ha8,h⟩:=bS h
  refine oq 162 (.hs 146 0 [] 1 0 (a8.map str).length) rfl (jq rfl rfl rfl rfl rfl (mu (path:=[]) (f:=str) (xs:=dU) (ys:=[c_3.Name]) rfl rfl (qB rfl rfl rfl) rfl rfl rfl aw rfl (by decide) lR ha8 rfl o9)) ?_
  refine cq 2 [1] [.hs 146 0 [] 1 0 (a8.map str).length] 178 ?_
  exact rg [1,2] [179,146,2] (j3 _ (al h) :)
 ·refine aq 1 ?_
  exact rg [1,2] [83,1,2] (j3 _ (al h) :)
theorem U8 {G:cD}:ct G 69 Ge:=jt fun cH g_Ffk=>gT 2 1 (bb g_Ffk bP) cJ Tryz.func69 (fun a r h=>XA cH a.1 a.2 r h)
def Ls:Shelf.Ren:=⟨fun | 190=>96 | 125=>101 | 258=>115 | 128=>125 | 129=>126 | 302=>132 | 303=>133 | 304=>134 | 305=>135 | 306=>136 | 307=>137 | 308=>138 | 309=>139 | 310=>140 | 333=>150 | 329=>142 | 330=>143 | 334=>151 | 335=>152 | 336=>128 | 344=>158 | n=>n,fun | 31=>22 | 9=>9 | 3=>3 | 46=>109 | 0=>0 | 51=>138 | 53=>140 | 4=>4 | 183=>131 | 182=>130 | 131=>135 | 5=>5 | 218=>148 | 222=>152 | 228=>157 | 229=>158 | n=>n,fun | n=>n⟩
theorem Wj:Go.Proofs.Lays.n190 Tryz.prog Ls where
 mixed:=by kernel_rfl
 f125:=Tryz.func101.trans (congrArg some (by kernel_rfl))
 f128:=Tryz.func125.trans (congrArg some (by kernel_rfl))
 f129:=Tryz.func126.trans (congrArg some (by kernel_rfl))
 f190:=Tryz.func96.trans (congrArg some (by kernel_rfl))
 f258:=Tryz.func115.trans (congrArg some (by kernel_rfl))
 f302:=Tryz.func132.trans (congrArg some (by kernel_rfl))
 f303:=Tryz.func133.trans (congrArg some (by kernel_rfl))
 f304:=Tryz.func134.trans (congrArg some (by kernel_rfl))
 f305:=Tryz.func135.trans (congrArg some (by kernel_rfl))
 f306:=Tryz.func136.trans (congrArg some (by kernel_rfl))
 f307:=Tryz.func137.trans (congrArg some (by kernel_rfl))
 f308:=Tryz.func138.trans (congrArg some (by kernel_rfl))
 f309:=Tryz.func139.trans (congrArg some (by kernel_rfl))
 f310:=Tryz.func140.trans (congrArg some (by kernel_rfl))
 f329:=Tryz.func142.trans (congrArg some (by kernel_rfl))
 f330:=Tryz.func143.trans (congrArg some (by kernel_rfl))
 f333:=Tryz.func150.trans (congrArg some (by kernel_rfl))
 f334:=Tryz.func151.trans (congrArg some (by kernel_rfl))
 f335:=Tryz.func152.trans (congrArg some (by kernel_rfl))
 f336:=Tryz.func128.trans (congrArg some (by kernel_rfl))
 f344:=Tryz.func158.trans (congrArg some (by kernel_rfl))
 t0:=Tryz.underlying0
 a0:=Tryz.isAgg0
 z0:=Tryz.sizeOf0
 v0:=Tryz.zeroValue0
 t3:=Tryz.underlying3
 a3:=Tryz.isAgg3
 z3:=Tryz.sizeOf3
 v3:=Tryz.zeroValue3
 t4:=Tryz.underlying4
 a4:=Tryz.isAgg4
 z4:=Tryz.sizeOf4
 v4:=Tryz.zeroValue4
 t5:=Tryz.underlying5
 a5:=Tryz.isAgg5
 z5:=Tryz.sizeOf5
 v5:=Tryz.zeroValue5
 t9:=Tryz.underlying9
 a9:=Tryz.isAgg9
 z9:=Tryz.sizeOf9
 v9:=Tryz.zeroValue9
 t31:=Tryz.underlying22
 a31:=Tryz.isAgg22
 z31:=Tryz.sizeOf22
 v31:=Tryz.zeroValue22
 t46:=Tryz.underlying109
 a46:=Tryz.isAgg109
 z46:=Tryz.sizeOf109
 v46:=Tryz.zeroValue109
 t51:=Tryz.underlying138
 a51:=Tryz.isAgg138
 z51:=Tryz.sizeOf138
 v51:=Tryz.zeroValue138
 t53:=Tryz.underlying140
 a53:=Tryz.isAgg140
 z53:=Tryz.sizeOf140
 v53:=Tryz.zeroValue140
 t131:=Tryz.underlying135
 a131:=Tryz.isAgg135
 z131:=Tryz.sizeOf135
 v131:=Tryz.zeroValue135
 t182:=Tryz.underlying130
 a182:=Tryz.isAgg130
 z182:=Tryz.sizeOf130
 v182:=Tryz.zeroValue130
 t183:=Tryz.underlying131
 a183:=Tryz.isAgg131
 z183:=Tryz.sizeOf131
 v183:=Tryz.zeroValue131
 t218:=Tryz.underlying148
 a218:=Tryz.isAgg148
 z218:=Tryz.sizeOf148
 v218:=Tryz.zeroValue148
 t222:=Tryz.underlying152
 a222:=Tryz.isAgg152
 z222:=Tryz.sizeOf152
 v222:=Tryz.zeroValue152
 t228:=Tryz.underlying157
 a228:=Tryz.isAgg157
 z228:=Tryz.sizeOf157
 v228:=Tryz.zeroValue157
 t229:=Tryz.underlying158
 a229:=Tryz.isAgg158
 z229:=Tryz.sizeOf158
 v229:=Tryz.zeroValue158
noncomputable def vn :=bA [true] (oA (kM 1 str)) (fun r=>(.tup [],[.usl 1 (r.map str)])) uq
theorem Wi {l:List ae}{r}(h:uq l=some r):vn.F [.usl 1 (l.map str)]=some (.tup [],[.usl 1 (r.map str)]):=aV (ea:=oA (kM 1 str)) (aW (eL bT)) h
theorem M3 {G:cD}:ct G 96 vn:=O7 Wj
def C1:(List ae)→List V:=oA (kM 1 str)
def C3 (r:(List ae)):V×List V:=(.usl 1 (r.map str),[.dead])
noncomputable def AF :=bA [true] C1 C3 fun x=>AE x
theorem Zd {s_2:List ae}{r}(h:AE s_2=some r):AF.F (C1 s_2)=some (C3 r):=aV (aW (eL bT)) h
noncomputable def Jj :=aQ Tryz.f97
noncomputable abbrev FY :=cL (cL (cR (cL (cR (cL (cR (cL (cL (cR (cL (cL (cR (cL (cR (cR Jj)))))))))))))))
noncomputable def vT :=cI []
def C2 (x:(List ae))(r:(List ae)):St→Prop:=QF vT Tryz.f97 [true] (C1 x) (C3 r)
theorem LM (s_2:List ae)(x2:Int):cf vT 1 (C2 s_2) FY 2 (kz s_2 x2) (fun u=>(sO 61 [(0,.hs 2 0 [] 1 0 (u.2.map str).length),(3,I u.1)] [none,some ⟨0,1,u.2.map str⟩] 3)) fun x6=>(sO 61 [(0,.hs 2 0 [] 1 0 (x6.2.2.map str).length),(3,I x6.1),(4,.hs 2 0 [] 1 (0+Int.toNat x2) (Int.toNat (len s_2) - Int.toNat x2)),(5,I x6.2.1)] [none,some ⟨0,1,x6.2.2.map str⟩] 3):=eu (yQ s_2 x2) fun {Q K} hK self ih x6 y h hr hn=>by
 unfold la at h
 refine cq 8 [32] [B (decide (x6.2.1<(((Int.toNat (len s_2) - Int.toNat x2):Nat):Int)))] 67 ?_
 refine sq h ?_ ?_<;>intro h
 ·refine aq 1 ?_
  refine aq 3 ?_
  refine cn [0,0,3,7,0,0,32,112,240,511] rfl (by decide +kernel) ?_
  refine dk 2 [36,35] [I x6.2.1,.hs 2 0 [] 1 (0+Int.toNat x2) (Int.toNat (len s_2) - Int.toNat x2)] ?_
  obtain⟨e7,he7,h⟩:=bS h
  refine dq [2] [] (.hp 2 0 [] 1 ((0+Int.toNat x2)+Int.toNat x6.2.1) 0) rfl (ah rfl rfl rfl (yd (xs:=x6.2.2) rfl rfl he7)) ?_
  refine dq [2] [] (str e7) rfl (bm rfl (bZ (path:=[]) rfl rfl rfl aw (tX (f:=str) (xs:=x6.2.2) he7) rfl rfl rfl)) ?_
  refine dk 3 [41,40,39] [I (ac (x6.2.1 - 1)),I x6.2.1,.hs 2 0 [] 1 (0+Int.toNat x2) (Int.toNat (len s_2) - Int.toNat x2)] ?_
  obtain⟨e8,he8,h⟩:=bS h
  refine dq [2] [] (.hp 2 0 [] 1 ((0+Int.toNat x2)+Int.toNat (ac (x6.2.1 - 1))) 0) rfl (ah rfl rfl rfl (yd (xs:=x6.2.2) rfl rfl he8)) ?_
  refine dq [2] [] (str e8) rfl (bm rfl (bZ (path:=[]) rfl rfl rfl aw (tX (f:=str) (xs:=x6.2.2) he8) rfl rfl rfl)) ?_
  refine dk 1 [44] [B (!(e7==e8))] ?_
  refine de 227 rfl rfl ?_
  obtain⟨y9,hy9,hy91,hy92⟩:=bL h
  have j9:∀u9,y9=.inr u9→Run vT 1 Q (.blk 3::.code (cR (cR FY))::.lp FY::.blk 2::K) (sO 61 [(0,.hs 2 0 [] 1 0 (u9.2.map str).length),(3,I u9.1),(4,.hs 2 0 [] 1 (0+Int.toNat x2) (Int.toNat (len s_2) - Int.toNat x2)),(5,I x6.2.1)] [none,some ⟨0,1,u9.2.map str⟩] 3):=by
   intro u9 hu
   replace h:=hy92 u9 hu
   refine cq 6 [5] [I (ac (x6.2.1+1))] 51 ?_
   refine dm ?_
   exact rg [0,3,4,5] [52,2] (ih _ _ h hr hn :)
  have r9:∀r',y9=.inl r'→∀st,C2 s_2 r' st→Q st:=fun r' e st hq=>hr r' (hy91 r' e) st hq
  replace h:=hy9
  refine sq h ?_ ?_<;>intro h
  ·refine cq 6 [45,46,47,48] [.hs 2 0 [] 1 0 (x6.2.2.map str).length,I x6.1,.hs 2 0 [] 1 (0+Int.toNat x2) (Int.toNat (len s_2) - Int.toNat x2),I x6.2.1] 291 ?_
   obtain⟨e10,he10,h⟩:=bS h
   refine oq 307 (.hp 2 0 [] 1 ((0+Int.toNat x2)+Int.toNat x6.2.1) 0) rfl (ah rfl rfl rfl (yd (xs:=x6.2.2) rfl rfl he10)) ?_
   refine oq 323 (str e10) rfl (bm rfl (bZ (path:=[]) rfl rfl rfl aw (tX (f:=str) (xs:=x6.2.2) he10) rfl rfl rfl)) ?_
   obtain⟨e11,he11,h⟩:=bS h
   refine oq 339 (.hp 2 0 [] 1 (0+Int.toNat x6.1) 0) rfl (ah rfl rfl rfl (aL (f:=str) (xs:=x6.2.2) rfl rfl rfl he11)) ?_
   refine o0 355 rfl rfl (dl rfl rfl (ch (path:=[]) (pl:=true) (e':=str e10) (es2':=(aK x6.2.2 x6.1 e10).map str) rfl (ap rfl) rfl rfl rfl aw (aB (f:=str) (xs:=x6.2.2) he11) rfl rfl rfl (eK (f:=str) (xs:=x6.2.2) (y:=e10)) cl 0 rfl)) ?_
   try rw[←ep (f:=str) (xs:=x6.2.2) (i:=x6.1) (z:=e10)]
   refine cq 6 [3] [I (ac (x6.1+1))] 403 ?_
   exact rg [0,3,4,5] [404,2] (j9 _ (al h) :)
  ·refine aq 1 ?_
   exact rg [0,3,4,5] [228,2] (j9 _ (al h) :)
 ·refine aq 1 ?_
  exact rg [0,3] [68,2] (hn _ (al h) :) (hk:=hK)
theorem LL (s_2:List ae):cf vT 1 (C2 s_2) (cL (cL (cR (cL (cR (cR Jj)))))) 0 (qq s_2) (fun u=>(sO 61 [(0,.hs 2 0 [] 1 0 (u.map str).length)] [none,some ⟨0,1,u.map str⟩] 3)) fun x2=>(sO 61 [(0,.hs 2 0 [] 1 0 (s_2.map str).length),(3,I x2)] [none,some ⟨0,1,s_2.map str⟩] 3):=eu (yP s_2) fun {Q K} hK self ih x2 y h hr hn=>by
 unfold kZ at h
 refine cq 5 [10,11] [I x2,.hs 2 0 [] 1 0 (s_2.map str).length] 35 ?_
 refine oq 51 (I (len s_2)) rfl (cg rfl rfl rfl (kd (f:=str) (xs:=s_2) rfl rfl)) ?_
 refine cq 2 [13] [B (decide (x2<(len s_2)))] 67 ?_
 refine sq h ?_ ?_<;>intro h
 ·refine aq 1 ?_
  refine aq 3 ?_
  refine cn [0,0,3,7,0,0,32,112,240,511] rfl (by decide +kernel) ?_
  refine dk 2 [17,16] [I x2,.hs 2 0 [] 1 0 (s_2.map str).length] ?_
  obtain⟨e3,he3,h⟩:=bS h
  refine dq [2] [] (.hp 2 0 [] 1 (0+Int.toNat x2) 0) rfl (ah rfl rfl rfl (aL (f:=str) (xs:=s_2) rfl rfl rfl he3)) ?_
  refine dq [2] [] (str e3) rfl (bm rfl (bZ (path:=[]) rfl rfl rfl aw (aB (f:=str) (xs:=s_2) he3) rfl rfl rfl)) ?_
  refine dk 3 [22,21,20] [I (ac (x2 - 1)),I x2,.hs 2 0 [] 1 0 (s_2.map str).length] ?_
  obtain⟨e4,he4,h⟩:=bS h
  refine dq [2] [] (.hp 2 0 [] 1 (0+Int.toNat (ac (x2 - 1))) 0) rfl (ah rfl rfl rfl (aL (f:=str) (xs:=s_2) rfl rfl rfl he4)) ?_
  refine dq [2] [] (str e4) rfl (bm rfl (bZ (path:=[]) rfl rfl rfl aw (aB (f:=str) (xs:=s_2) he4) rfl rfl rfl)) ?_
  refine dk 1 [25] [B (e3==e4)] ?_
  refine de 227 rfl rfl ?_
  refine sq h ?_ ?_<;>intro h
  ·refine cq 4 [26,27] [.hs 2 0 [] 1 0 (s_2.map str).length,I x2] 259 ?_
   obtain⟨s5,hs5,h⟩:=bS h
   refine oq 275 (.hs 2 0 [] 1 (0+Int.toNat x2) (Int.toNat (len s_2) - Int.toNat x2)) rfl (gI rfl rfl rfl rfl (lO (f:=str) (xs:=s_2) rfl rfl rfl rfl (Gx rfl) hs5)) ?_
   refine cq 8 [4,5] [.hs 2 0 [] 1 (0+Int.toNat x2) (Int.toNat (len s_2) - Int.toNat x2),I (1)] 307 ?_
   obtain⟨y15,hy15,hy151,hy152⟩:=bL h
   refine bO rfl ?_
   refine rg [0,3,4,5] [308,2] (LM s_2 x2 rfl (x2,1,s_2) _ hy15 (fun r' e st hq=>hr r' (hy151 r' e) st hq) fun u15 hu=>?_)
   replace h:=hy152 u15 hu
   refine cq 4 [54,55] [.hs 2 0 [] 1 0 (u15.2.map str).length,I u15.1] 35 ?_
   obtain⟨s16,hs16,h⟩:=bS h
   refine oq 51 (.hs 2 0 [] 1 (0+Int.toNat u15.1) (Int.toNat (len u15.2) - Int.toNat u15.1)) rfl (gI rfl rfl rfl rfl (lO (f:=str) (xs:=u15.2) rfl rfl rfl rfl (Gx rfl) hs16)) ?_
   obtain⟨k17,hk17,h⟩:=bS h
   refine o0 67 rfl rfl (ND rfl rfl (W2 (f:=str) (xs:=u15.2) (z0:=[]) rfl rfl rfl rfl (by decide) mU hk17)) ?_
   try rw[show (u15.2.map str).length=(k17.map str).length from Nz hk17]
   refine cq 5 [57,58] [.hs 2 0 [] 1 0 (k17.map str).length,I u15.1] 99 ?_
   obtain⟨s18,hs18,h⟩:=bS h
   refine oq 115 (.hs 2 0 [] 1 (0+Int.toNat (0)) (Int.toNat u15.1 - Int.toNat (0))) rfl (gI rfl rfl rfl rfl (lO (f:=str) (xs:=k17) rfl rfl rfl rfl rfl hs18)) ?_
   refine cq 2 [2] [.hs 2 0 [] 1 (0+Int.toNat (0)) (Int.toNat u15.1 - Int.toNat (0))] 131 ?_
   obtain⟨p19,hp19,h⟩:=bS h
   exact bR rfl (hr _ (al h) _ ⟨_,fin (vs:=[.hs 2 0 [] 1 (0+Int.toNat (0)) (Int.toNat u15.1 - Int.toNat (0))]) rfl (d6 (gt rfl (Ke (path:=[]) (f:=str) (xs:=k17) rfl rfl aw hp19 rfl o9)) cX) rfl (fy rfl (kJ rfl) d4),oZ dX⟩)
  ·refine aq 1 ?_
   refine cq 6 [3] [I (ac (x2+1))] 275 ?_
   refine dm ?_
   exact rg [0,3] [276,2] (ih _ _ h hr hn :)
 ·refine aq 1 ?_
  exact rg [0] [68,2] (hn _ (al h) :) (hk:=hK)
theorem Uf (s_2:List ae)(r:(List ae))(h:AE s_2=some r):bN vT Tryz.f97 [true] 1 (C1 s_2) (C3 r):=by
 show Run _ _ (C2 s_2 r) [.code Jj] _
 refine rI 61 [(0,.hs 1 0 [] 1 0 (s_2.map str).length)] [(1,some ⟨0,1,s_2.map str⟩)] 2 ?_
 unfold AE at h
 refine cq 8 [6] [.hs 1 0 [] 1 0 (s_2.map str).length] 34 ?_
 refine oq 50 (I (len s_2)) rfl (cg rfl rfl rfl (kd (f:=str) (xs:=s_2) rfl rfl)) ?_
 refine cq 2 [8] [B (decide ((len s_2)<2))] 66 ?_
 refine sq h ?_ ?_<;>intro h
 ·refine cq 5 [2] [.hs 1 0 [] 1 0 (s_2.map str).length] 98 ?_
  obtain rfl:=sI h
  exact bR rfl ⟨_,fin (vs:=[.hs 1 0 [] 1 0 (s_2.map str).length]) rfl (d6 (gt rfl (eg rfl rfl)) cX) rfl (fy rfl (kJ rfl) d4),oZ dX⟩
 ·refine aq 1 ?_
  refine cq 6 [3] [I (1)] 82 ?_
  obtain⟨y20,hy20,hy201,hy202⟩:=bJ h
  refine bO rfl ?_
  refine rg [0,3] [83,1] (LL s_2 rfl 1 _ hy20 (fun r' e st hq=>by rw[hy201 r' e] at hq;exact hq) fun u20 hu=>?_)
  replace h:=hy202 u20 hu
  refine cq 5 [2] [.hs 2 0 [] 1 0 (u20.map str).length] 35 ?_
  obtain rfl:=sI h
  exact bR rfl ⟨_,fin (vs:=[.hs 2 0 [] 1 0 (u20.map str).length]) rfl (d6 (gt rfl (eg rfl rfl)) cX) rfl (fy rfl (kJ rfl) d4),oZ dX⟩
theorem QO {G:cD}:ct G 97 AF:=gT 1 1 bP cJ Tryz.func97 (fun a r h=>Uf a r h)
def IB:(List ae)→List V:=oA (kM 1 str)
def IC (r:(List ae)):V×List V:=(.usl 1 (r.map str),[.dead])
noncomputable def Gn :=bA [true] IB IC fun x=>J7 x
theorem aa5 {jL:List ae}{r}(h:J7 jL=some r):Gn.F (IB jL)=some (IC r):=aV (aW (eL bT)) h
noncomputable def aa7 :=aQ Tryz.f68
noncomputable def WK :=cI [(96,vn),(97,AF)]
def aa6 (x:(List ae))(r:(List ae)):St→Prop:=QF WK Tryz.f68 [true] (IB x) (IC r)
theorem XK (jL:List ae)(r:(List ae))(h:J7 jL=some r):bN WK Tryz.f68 [true] 1 (IB jL) (IC r):=by
 show Run _ _ (aa6 jL r) [.code aa7] _
 refine rI 7 [(0,.hs 1 0 [] 1 0 (jL.map str).length)] [(1,some ⟨0,1,jL.map str⟩)] 2 ?_
 unfold J7 at h
 refine cq 7 [3] [.hs 1 0 [] 1 0 (jL.map str).length] 34 ?_
 obtain⟨r2,hr2,h⟩:=bS h
 obtain⟨g3,h⟩:=gG h
 refine oq 50 (.tup []) rfl (bC rfl rfl (bW rfl rfl rfl (gm (ge rfl (eP (path:=[]) rfl rfl aw rfl)) cS) (Wi hr2) (.inr rfl) (fi rfl rfl rfl rfl dE) rfl rfl rfl)) ?_
 try rw[eU (f:=str) (xs:=jL) (ys:=r2) g3]
 refine cq 4 [5] [.hs 1 0 [] 1 0 (r2.map str).length] 66 ?_
 obtain⟨r4,hr4,h⟩:=bS h
 refine oq 82 (.hs 66 0 [] 1 0 (r4.map str).length) rfl (bC rfl rfl (bW rfl rfl rfl (gm (ge rfl (eP (path:=[]) rfl rfl aw rfl)) cS) (Zd hr4) (.inr rfl) (fi rfl rfl rfl kB dE) rfl rfl rfl)) ?_
 refine cq 2 [2] [.hs 66 0 [] 1 0 (r4.map str).length] 98 ?_
 obtain rfl:=sI h
 exact bR rfl ⟨_,fin (vs:=[.hs 66 0 [] 1 0 (r4.map str).length]) rfl (d6 (gt rfl (eg rfl rfl)) cX) rfl (fy rfl (kJ rfl) d4),oZ dX⟩
theorem Vh {G:cD}:ct G 68 Gn:=gT 1 1 (bb M3 (bb QO bP)) cJ Tryz.func68 (fun a r h=>XK a r h)
def Iq:Contract→List V:=oA bn
def Ir (r:(List ae)):V×List V:=(.usl 1 (r.map str),[])
noncomputable def Gj :=bA [false] Iq Ir fun x=>J1 x
theorem aa0 {c_1:Contract}{r}(h:J1 c_1=some r):Gj.F (Iq c_1)=some (Ir r):=aV (aW co) h
noncomputable def WG :=aQ Tryz.f65
noncomputable def OA :=cI [(69,Ge),(68,Gn)]
def WF (x:Contract)(r:(List ae)):St→Prop:=QF OA Tryz.f65 [false] (Iq x) (Ir r)
theorem OB (c_1:Contract):cf OA 0 (WF c_1) (cL (cL (cR (cL (cR (cR WG)))))) 0 (pA c_1) (fun u=>(sT 25 [(3,.hs 1 0 [] 1 0 (u.map str).length)] [⟨0,1,u.map str⟩] 2)) fun x2=>(sT 25 [(3,.hs 1 0 [] 1 0 (x2.2.map str).length),(8,.isl false (c_1.Clauses.map aA)),(9,I (len c_1.Clauses)),(10,I x2.1)] [⟨0,1,x2.2.map str⟩] 2):=eu (E1 c_1) fun {Q K} hK self ih x2 y h hr hn=>by
 unfold mQ at h
 refine cq 5 [11] [B (decide (x2.1<(len c_1.Clauses)))] 18 ?_
 refine sq h ?_ ?_<;>intro h
 ·refine aq 1 ?_
  refine aq 4 ?_
  obtain⟨e3,he3,h⟩:=bS h
  refine oq 34 (.iptr (aG e3) 0) rfl (ah rfl rfl rfl (cp rfl rfl rfl rfl he3)) ?_
  refine ck 2 [5,13] [] [50] [] [.hp 50 0 [] 12 0 0,aG e3] [some ⟨0,12,[.agg [str ([]),I (0),I (0),str ([]),I (0),I (0),I (0),str ([]),I (0),.isl true [],I (0),str ([])]]⟩] 66 (by kernel_rfl) ?_
  refine gJ 50 [.agg [str ([]),I (0),I (0),str ([]),I (0),I (0),I (0),str ([]),I (0),.usl 4 (([]).map ai),I (0),str ([])]] rfl rfl (aN (iH (aN (.refl _) (aN (.refl _) (aN (.refl _) (aN (.refl _) (aN (.refl _) (aN (.refl _) (aN (.refl _) (aN (.refl _) (aN (.refl _) (aN (.nil _) (aN (.refl _) (aN (.refl _) fp))))))))))))) fp) ?_
  refine ck 2 [] [] [50] [] [] [some ⟨2,12,[aG e3]⟩] 82 (by kernel_rfl) ?_
  refine cn [0,1,0,0,8,24,60,127,255] rfl (by decide +kernel) ?_
  refine dq [50] [] (.hp 50 0 [] 12 0 6) rfl (cW rfl rfl rfl) ?_
  refine dq [50] [] (ao e3.When) rfl (bm rfl rfl) ?_
  refine dk 1 [16] [.hs 1 0 [] 1 0 (x2.2.map str).length] ?_
  refine dq [50] [] (.hp 50 0 [] 12 0 3) rfl (cW rfl rfl rfl) ?_
  refine dq [50] [] (str e3.Action) rfl (bm rfl rfl) ?_
  refine dq [] [] (.hs 162 0 [] 1 0 1) rfl (ec rfl (jh (f:=I) (xs:=[]) (z:=str ([])) (es:=[str e3.Action]) (ws:=[str e3.Action]) rfl rfl rfl (by decide) rfl (dt rfl) rfl)) ?_
  obtain⟨a4,ha4,h⟩:=bS h
  refine dq [1,162] [1] (.hs 178 0 [] 1 0 (a4.map str).length) rfl (jq rfl rfl rfl rfl rfl (mu (path:=[]) (f:=str) (xs:=x2.2) (ys:=[e3.Action]) rfl rfl (qB rfl rfl rfl) rfl rfl rfl aw rfl (by decide) lR ha4 rfl o9)) ?_ (vm rfl (uI (path:=[]) (f:=str) (xs:=[e3.Action]) rfl rfl aw mU rfl))
  obtain⟨r5,hr5,h⟩:=bS h
  refine dq [178] [178] (.hs 194 0 [] 1 0 (r5.map str).length) rfl (bC rfl rfl (bW rfl rfl rfl (ba (bl rfl) (gm (ge rfl (eP (path:=[]) rfl rfl aw rfl)) cS)) (WB hr5) (.inr rfl) (fi rfl rfl rfl kB dE) rfl rfl rfl)) ?_ (dK rfl rfl rfl rfl (ba (bl rfl) (gm (ge rfl (eP (path:=[]) rfl rfl aw rfl)) cS)) (WB hr5) (.inr rfl) rfl)
  refine dk 1 [3] [.hs 194 0 [] 1 0 (r5.map str).length] ?_
  refine de 226 rfl rfl ?_
  refine cq 5 [10] [I (ac (x2.1+1))] 258 ?_
  refine dm ?_
  exact rf [3,8,9,10] [194] (ih _ _ h hr hn :)
 ·refine aq 1 ?_
  exact rf [3] [1] (hn _ (al h) :) (hk:=hK)
theorem XG (c_1:Contract)(r:(List ae))(h:J1 c_1=some r):bN OA Tryz.f65 [false] 0 (Iq c_1) (Ir r):=by
 show Run _ _ (WF c_1 r) [.code WG] _
 refine rI 25 [(0,ak c_1)] [] 1 ?_
 unfold J1 at h
 refine ck 7 [1] [] [1] [] [.hp 1 0 [] 2 0 0] [some ⟨0,2,[ak c_1]⟩] 33 (by kernel_rfl) ?_
 refine oq 49 (.hs 33 0 [] 1 0 0) rfl (ec rfl (jh (f:=I) (xs:=[]) (z:=str ([])) (es:=[]) (ws:=[]) rfl rfl rfl (by decide) rfl (dt rfl) rfl)) ?_
 refine cq 7 [3,8] [.hs 33 0 [] 1 0 0,.isl false (c_1.Clauses.map aA)] 97 ?_
 refine oq 113 (I (len c_1.Clauses)) rfl (cg rfl rfl rfl (du rfl)) ?_
 refine cq 3 [10] [I (0)] 129 ?_
 obtain⟨y6,hy6,hy61,hy62⟩:=bJ h
 refine bO rfl ?_
 refine rf [3,8,9,10] [33] (OB c_1 rfl (0,[]) _ hy6 (fun r' e st hq=>by rw[hy61 r' e] at hq;exact hq) fun u6 hu=>?_)
 replace h:=hy62 u6 hu
 refine cq 3 [23] [.hs 1 0 [] 1 0 (u6.map str).length] 18 ?_
 obtain⟨r7,hr7,h⟩:=bS h
 refine oq 34 (.hs 18 0 [] 1 0 (r7.map str).length) rfl (bC rfl rfl (bW rfl rfl rfl (gm (ge rfl (eP (path:=[]) rfl rfl aw rfl)) cS) (aa5 hr7) (.inr rfl) (fi rfl rfl rfl kB dE) rfl rfl rfl)) ?_
 refine cq 2 [2] [.hs 18 0 [] 1 0 (r7.map str).length] 50 ?_
 obtain rfl:=sI h
 exact bR rfl ⟨_,fin (vs:=[.hs 18 0 [] 1 0 (r7.map str).length]) rfl (d6 (gt rfl (eg rfl rfl)) cX) rfl (bH d4),dX⟩
theorem Vd {G:cD}:ct G 65 Gj:=gT 1 0 (bb U8 (bb Vh bP)) cJ Tryz.func65 (fun a r h=>XG a r h)
def H6:Contract→List V:=oA bn
def H8 (r:Bool):V×List V:=(B r,[])
noncomputable def Gc :=bA [false] H6 H8 fun x=>JZ x
theorem aaQ {c_1:Contract}{r}(h:JZ c_1=some r):Gc.F (H6 c_1)=some (H8 r):=aV (aW co) h
noncomputable def H9 :=aQ Tryz.f34
noncomputable def H7 :=cI [(62,Gf),(64,Gk),(65,Gj),(63,nr)]
def EM (x:Contract)(r:Bool):St→Prop:=QF H7 Tryz.f34 [false] (H6 x) (H8 r)
theorem Ot (c_1:Contract):cf H7 0 (EM c_1) (cL (cL (cR (cL (cR (cR H9)))))) 0 (nJ c_1) (fun u=>(sT 30 [(1,.hp 1 0 [] 2 0 0)] [⟨0,2,[ak c_1]⟩] 2)) fun x4=>(sT 30 [(1,.hp 1 0 [] 2 0 0),(17,I (len c_1.Clauses)),(18,I x4)] [⟨0,2,[ak c_1]⟩] 2):=eu (EN c_1) fun {Q K} hK self ih x4 y h hr hn=>by
 unfold mO at h
 refine cq 5 [19] [B (decide (x4<(len c_1.Clauses)))] 18 ?_
 refine sq h ?_ ?_<;>intro h
 ·refine aq 1 ?_
  refine cq 11 [21,22] [ak c_1,I x4] 82 ?_
  obtain⟨r5,hr5,h⟩:=bS h
  refine oq 98 (B r5) rfl (cP (aa1 hr5)) ?_
  refine cq 2 [24] [B (!r5)] 114 ?_
  refine sq h ?_ ?_<;>intro h
  ·refine cq 4 [2] [B false] 130 ?_
   exact bR rfl (hr _ (al h) _ (qp [B false]))
  ·refine aq 1 ?_
   refine cq 5 [18] [I (ac (x4+1))] 146 ?_
   refine dm ?_
   exact rf [1,17,18] [1] (ih _ _ h hr hn :)
 ·refine aq 1 ?_
  exact rf [1] [1] (hn _ (al h) :) (hk:=hK)
theorem Xw (c_1:Contract)(r:Bool)(h:JZ c_1=some r):bN H7 Tryz.f34 [false] 0 (H6 c_1) (H8 r):=by
 show Run _ _ (EM c_1 r) [.code H9] _
 refine rI 30 [(0,ak c_1)] [] 1 ?_
 unfold JZ at h
 refine ck 10 [1,5] [] [1] [] [.hp 1 0 [] 2 0 0,.isl false (c_1.Parties.map str)] [some ⟨0,2,[ak c_1]⟩] 65 (by kernel_rfl) ?_
 obtain⟨r2,hr2,h⟩:=bS h
 refine oq 81 (B r2) rfl (cP (aaT hr2)) ?_
 refine cq 2 [8] [B (!r2)] 113 ?_
 obtain⟨y3,hy3,hy31,hy32⟩:=bJ h
 have j3:∀u3,y3=.inr u3→Run H7 0 (EM c_1 r) (.code (cR (cL (cR H9)))::.code (cR (cR H9))::[]) (sT 30 [(1,.hp 1 0 [] 2 0 0),(14,B u3)] [⟨0,2,[ak c_1]⟩] 2):=by
  intro u3 hu
  replace h:=hy32 u3 hu
  refine sq h ?_ ?_<;>intro h
  ·refine cq 4 [2] [B false] 18 ?_
   obtain rfl:=sI h
   exact rP [B false]
  ·refine aq 1 ?_
   refine cq 5 [16] [.isl false (c_1.Clauses.map aA)] 34 ?_
   refine oq 50 (I (len c_1.Clauses)) rfl (cg rfl rfl rfl (du rfl)) ?_
   refine cq 3 [18] [I (0)] 66 ?_
   obtain⟨y6,hy6,hy61,hy62⟩:=bJ h
   refine bO rfl ?_
   refine rf [1,17,18] [1] (Ot c_1 rfl 0 _ hy6 (fun r' e st hq=>by rw[hy61 r' e] at hq;exact hq) fun u6 hu=>?_)
   replace h:=hy62 u6 hu
   refine cq 3 [26] [ak c_1] 18 ?_
   obtain⟨r7,hr7,h⟩:=bS h
   refine oq 34 (.hs 18 0 [] 1 0 (r7.map str).length) rfl (cP (aa0 hr7)) ?_
   refine oq 50 (I (len r7)) rfl (cg rfl rfl rfl (kd (f:=str) (xs:=r7) rfl rfl)) ?_
   refine cq 3 [2] [B (decide ((len r7)≤16))] 82 ?_
   obtain rfl:=sI h
   exact rP [B (decide ((len r7)≤16))]
 have r3:∀r',y3=.inl r'→∀st,EM c_1 r' st→(EM c_1 r) st:=fun r' e st hq=>by rw[hy31 r' e] at hq;exact hq
 replace h:=hy3
 refine sp 8 h rfl ?_ ?_<;>intro h
 ·refine cq 7 [14] [B true] 209 ?_
  exact rf [1,14] [1] (j3 _ (al h) :)
 ·refine cq 2 [10] [.isl false (c_1.Clauses.map aA)] 145 ?_
  refine oy 161 (I (len c_1.Clauses)) rfl (cg rfl rfl rfl (du rfl)) ?_
  obtain⟨r8,hr8,h⟩:=bS h
  refine oy 177 (B r8) rfl (cP (nN hr8)) ?_
  refine cq 3 [14] [B (!r8)] 209 ?_
  exact rf [1,14] [1] (j3 _ (al h) :)
theorem U6 {G:cD}:ct G 34 Gc:=gT 1 0 (bb U9 (bb Ve (bb Vd (bb oM bP)))) cJ Tryz.func34 (fun a r h=>Xw a r h)
def CR:Int→List V:=oA (V.int .u64)
def CT (r:Int):V×List V:=(I r,[])
noncomputable def AB :=bA [false] CR CT fun x=>FV x
theorem Zb {x_1:Int}{r}(h:FV x_1=some r):AB.F (CR x_1)=some (CT r):=aV (aW (ro (k:=.u64))) h
noncomputable def CU :=aQ Tryz.f126
noncomputable def vQ :=cI []
def CS (x:Int)(r:Int):St→Prop:=QF vQ Tryz.f126 [false] (CR x) (CT r)
theorem Ub (x_1:Int)(r:Int)(h:FV x_1=some r):bN vQ Tryz.f126 [false] 0 (CR x_1) (CT r):=by
 show Run _ _ (CS x_1 r) [.code CU] _
 refine rI 25 [(0,.int .u64 x_1)] [] 1 ?_
 unfold FV at h
 refine cq 10 [2,4] [I (0),B (decide (x_1≥4294967296))] 49 ?_
 obtain⟨u2,hu2,h⟩:=lJ h
 have j2:Run vQ 0 (CS x_1 r) (.code (cR (cR CU))::[]) (sT 25 [(0,.int .u64 u2.1),(2,I u2.2)] [] 1):=by
  refine cq 6 [8] [B (decide (u2.1≥65536))] 33 ?_
  obtain⟨u3,hu3,h⟩:=lJ h
  have j3:Run vQ 0 (CS x_1 r) (.code (cR (cR (cR CU)))::[]) (sT 25 [(0,.int .u64 u3.1),(2,I u3.2)] [] 1):=by
   refine cq 6 [14] [B (decide (u3.1≥256))] 33 ?_
   obtain⟨u4,hu4,h⟩:=lJ h
   have j4:Run vQ 0 (CS x_1 r) (.code (cR (cR (cR (cR CU))))::[]) (sT 25 [(0,.int .u64 u4.1),(2,I u4.2)] [] 1):=by
    refine cq 5 [19,21] [I u4.2,.int .u8 (IntKind.u8.wrap u4.1)] 49 ?_
    obtain⟨c5,hc5,h⟩:=bS h
    refine oq 65 (.int .u8 (c5.toNat:Int)) rfl (l7 rfl rfl (qc rfl rfl hc5)) ?_
    refine cq 4 [2] [I (ac (u4.2+(IntKind.i64.wrap (c5.toNat:Int))))] 113 ?_
    obtain rfl:=sI h
    exact rP [I (ac (u4.2+(IntKind.i64.wrap (c5.toNat:Int))))]
   replace h:=hu4
   clear hu4
   refine sk h rfl rfl ?_ ?_<;>intro h
   ·refine cq 11 [0,2] [.int .u64 (gk .u64 u3.1 8),I (ac (u3.2+8))] 129 ?_
    subst h
    exact rf [0,2] [] (j4 :)
   ·refine aq 1 ?_
    subst h
    exact rf [0,2] [] (j4 :)
  replace h:=hu3
  clear hu3
  refine sk h rfl rfl ?_ ?_<;>intro h
  ·refine cq 11 [0,2] [.int .u64 (gk .u64 u2.1 16),I (ac (u2.2+16))] 129 ?_
   subst h
   exact rf [0,2] [] (j3 :)
  ·refine aq 1 ?_
   subst h
   exact rf [0,2] [] (j3 :)
 replace h:=hu2
 clear hu2
 refine sk h rfl rfl ?_ ?_<;>intro h
 ·refine cq 9 [0,2] [.int .u64 (gk .u64 x_1 32),I (32)] 113 ?_
  subst h
  exact rf [0,2] [] (j2 :)
 ·refine aq 1 ?_
  subst h
  exact rf [0,2] [] (j2 :)
theorem QM {G:cD}:ct G 126 AB:=gT 1 0 bP cJ Tryz.func126 (fun a r h=>Ub a r h)
def CP:Int→List V:=oA (V.int .u64)
def CQ (r:Int):V×List V:=(I r,[])
noncomputable def uu :=bA [false] CP CQ fun x=>vP x
theorem QL {x_1:Int}{r}(h:vP x_1=some r):uu.F (CP x_1)=some (CQ r):=aV (aW (ro (k:=.u64))) h
noncomputable def Za :=aQ Tryz.f101
noncomputable def QK :=cI [(126,AB)]
def Y9 (x:Int)(r:Int):St→Prop:=QF QK Tryz.f101 [false] (CP x) (CQ r)
theorem Ua (x_1:Int)(r:Int)(h:vP x_1=some r):bN QK Tryz.f101 [false] 0 (CP x_1) (CQ r):=by
 show Run _ _ (Y9 x_1 r) [.code Za] _
 refine rI 8 [(0,.int .u64 x_1)] [] 1 ?_
 unfold vP at h
 refine cq 5 [] [] 17 ?_
 refine Lc rfl rfl (fun hb=>by cases hb) (fun _=>?_)
 refine cq 4 [6] [.int .u64 x_1] 33 ?_
 obtain⟨r2,hr2,h⟩:=bS h
 refine oq 49 (I r2) rfl (cP (Zb hr2)) ?_
 refine cq 2 [2] [I r2] 65 ?_
 obtain rfl:=sI h
 exact rP [I r2]
theorem GU {G:cD}:ct G 101 uu:=gT 1 0 (bb QM bP) cJ Tryz.func101 (fun a r h=>Ua a r h)
def HY:Int→List V:=oA I
def HZ (r:Bool):V×List V:=(B r,[])
noncomputable def F5 :=bA [false] HY HZ fun x=>JD x
theorem Wu {x_1:Int}{r}(h:JD x_1=some r):F5.F (HY x_1)=some (HZ r):=aV (aW bF) h
noncomputable def aaI :=aQ Tryz.f127
noncomputable def Wt :=cI []
def aaH (x:Int)(r:Bool):St→Prop:=QF Wt Tryz.f127 [false] (HY x) (HZ r)
theorem Xo (x_1:Int)(r:Bool)(h:JD x_1=some r):bN Wt Tryz.f127 [false] 0 (HY x_1) (HZ r):=by
 show Run _ _ (aaH x_1 r) [.code aaI] _
 refine rI 6 [(0,I x_1)] [] 1 ?_
 unfold JD at h
 refine cq 11 [2] [B (x_1 != x_1)] 81 ?_
 obtain rfl:=sI h
 exact rP [B (x_1 != x_1)]
theorem UE {G:cD}:ct G 127 F5:=gT 1 0 bP cJ Tryz.func127 (fun a r h=>Xo a r h)
def HS:(Int×Int)→List V:=cA I (oA I)
def HT (r:Int):V×List V:=(I r,[])
noncomputable def FT :=bA [false,false] HS HT fun x=>BZ x.1 x.2
theorem xz {x_1:Int}{y_2:Int}{r}(h:BZ x_1 y_2=some r):FT.F (HS (x_1,y_2))=some (HT r):=aV (aY bF (aW bF)) h
noncomputable def aaE :=aQ Tryz.f103
noncomputable def Wn :=cI [(127,F5)]
def aaD (x:Int×Int)(r:Int):St→Prop:=QF Wn Tryz.f103 [false,false] (HS x) (HT r)
theorem Xd (x_1:Int)(y_2:Int)(r:Int)(h:BZ x_1 y_2=some r):bN Wn Tryz.f103 [false,false] 0 (HS (x_1,y_2)) (HT r):=by
 show Run _ _ (aaD (x_1,y_2) r) [.code aaE] _
 refine rI 20 [(0,I x_1),(1,I y_2)] [] 1 ?_
 unfold BZ at h
 refine cq 7 [7] [I x_1] 33 ?_
 obtain⟨r3,hr3,h⟩:=bS h
 refine oq 49 (B r3) rfl (cP (Wu hr3)) ?_
 refine cq 5 [5,9] [B r3,I y_2] 81 ?_
 obtain⟨r4,hr4,h⟩:=bS h
 refine oq 97 (B r4) rfl (cP (Wu hr4)) ?_
 refine cq 7 [6,11] [B r4,B r3] 129 ?_
 refine sq h ?_ ?_<;>intro h
 ·refine cq 5 [12] [B r4] 145 ?_
  refine sq h ?_ ?_<;>intro h
  ·refine cq 4 [4] [I (0)] 161 ?_
   obtain rfl:=sI h
   exact rP [I (0)]
  ·refine aq 1 ?_
   refine cq 4 [4] [I (-1)] 161 ?_
   obtain rfl:=sI h
   exact rP [I (-1)]
 ·refine aq 1 ?_
  refine cq 5 [13] [B r4] 145 ?_
  refine sq h ?_ ?_<;>intro h
  ·refine cq 4 [4] [I (1)] 161 ?_
   obtain rfl:=sI h
   exact rP [I (1)]
  ·refine aq 1 ?_
   refine cq 7 [16] [B (decide (x_1<y_2))] 193 ?_
   refine sq h ?_ ?_<;>intro h
   ·refine cq 4 [4] [I (-1)] 209 ?_
    obtain rfl:=sI h
    exact rP [I (-1)]
   ·refine aq 1 ?_
    refine cq 7 [19] [B (decide (x_1>y_2))] 241 ?_
    refine sq h ?_ ?_<;>intro h
    ·refine cq 4 [4] [I (1)] 257 ?_
     obtain rfl:=sI h
     exact rP [I (1)]
    ·refine aq 1 ?_
     refine cq 4 [4] [I (0)] 257 ?_
     obtain rfl:=sI h
     exact rP [I (0)]
theorem TD {G:cD}:ct G 103 FT:=gT 2 0 (bb UE bP) cJ Tryz.func103 (fun a r h=>Xd a.1 a.2 r h)
def H0:ae→List V:=oA str
def H1 (r:Bool):V×List V:=(B r,[])
noncomputable def Ga :=bA [false] H0 H1 fun x=>JX x
theorem Ww {x_1:ae}{r}(h:JX x_1=some r):Ga.F (H0 x_1)=some (H1 r):=aV (aW bT) h
noncomputable def aaK :=aQ Tryz.f128
noncomputable def Wv :=cI []
def aaJ (x:ae)(r:Bool):St→Prop:=QF Wv Tryz.f128 [false] (H0 x) (H1 r)
theorem Xt (x_1:ae)(r:Bool)(h:JX x_1=some r):bN Wv Tryz.f128 [false] 0 (H0 x_1) (H1 r):=by
 show Run _ _ (aaJ x_1 r) [.code aaK] _
 refine rI 6 [(0,str x_1)] [] 1 ?_
 unfold JX at h
 refine cq 11 [2] [B (!(x_1==x_1))] 81 ?_
 obtain rfl:=sI h
 exact rP [B (!(x_1==x_1))]
theorem U4 {G:cD}:ct G 128 Ga:=gT 1 0 bP cJ Tryz.func128 (fun a r h=>Xt a r h)
def HU:(ae×ae)→List V:=cA str (oA str)
def HV (r:Int):V×List V:=(I r,[])
noncomputable def FU :=bA [false,false] HU HV fun x=>IX x.1 x.2
theorem Wp {x_1:ae}{y_2:ae}{r}(h:IX x_1 y_2=some r):FU.F (HU (x_1,y_2))=some (HV r):=aV (aY bT (aW bT)) h
noncomputable def aaG :=aQ Tryz.f104
noncomputable def Wo :=cI [(128,Ga)]
def aaF (x:ae×ae)(r:Int):St→Prop:=QF Wo Tryz.f104 [false,false] (HU x) (HV r)
theorem Xf (x_1:ae)(y_2:ae)(r:Int)(h:IX x_1 y_2=some r):bN Wo Tryz.f104 [false,false] 0 (HU (x_1,y_2)) (HV r):=by
 show Run _ _ (aaF (x_1,y_2) r) [.code aaG] _
 refine rI 20 [(0,str x_1),(1,str y_2)] [] 1 ?_
 unfold IX at h
 refine cq 7 [7] [str x_1] 33 ?_
 obtain⟨r3,hr3,h⟩:=bS h
 refine oq 49 (B r3) rfl (cP (Ww hr3)) ?_
 refine cq 5 [5,9] [B r3,str y_2] 81 ?_
 obtain⟨r4,hr4,h⟩:=bS h
 refine oq 97 (B r4) rfl (cP (Ww hr4)) ?_
 refine cq 7 [6,11] [B r4,B r3] 129 ?_
 refine sq h ?_ ?_<;>intro h
 ·refine cq 5 [12] [B r4] 145 ?_
  refine sq h ?_ ?_<;>intro h
  ·refine cq 4 [4] [I (0)] 161 ?_
   obtain rfl:=sI h
   exact rP [I (0)]
  ·refine aq 1 ?_
   refine cq 4 [4] [I (-1)] 161 ?_
   obtain rfl:=sI h
   exact rP [I (-1)]
 ·refine aq 1 ?_
  refine cq 5 [13] [B r4] 145 ?_
  refine sq h ?_ ?_<;>intro h
  ·refine cq 4 [4] [I (1)] 161 ?_
   obtain rfl:=sI h
   exact rP [I (1)]
  ·refine aq 1 ?_
   refine cq 7 [16] [B (Op.bytesLess x_1 y_2)] 193 ?_
   refine sq h ?_ ?_<;>intro h
   ·refine cq 4 [4] [I (-1)] 209 ?_
    obtain rfl:=sI h
    exact rP [I (-1)]
   ·refine aq 1 ?_
    refine cq 7 [19] [B (!(Op.bytesLess x_1 y_2||x_1==y_2))] 241 ?_
    refine sq h ?_ ?_<;>intro h
    ·refine cq 4 [4] [I (1)] 257 ?_
     obtain rfl:=sI h
     exact rP [I (1)]
    ·refine aq 1 ?_
     refine cq 4 [4] [I (0)] 257 ?_
     obtain rfl:=sI h
     exact rP [I (0)]
theorem TE {G:cD}:ct G 104 FU:=gT 2 0 (bb U4 bP) cJ Tryz.func104 (fun a r h=>Xf a.1 a.2 r h)
def HW:(List Int)→List V:=oA (jX I)
def HX (r:Int):V×List V:=(I r,[])
noncomputable def FW :=bA [false] HW HX fun x=>Je x
theorem Wq {eB:List Int}{r}(h:Je eB=some r):FW.F (HW eB)=some (HX r):=aV (aW (ek bF)) h
noncomputable def Ws :=aQ Tryz.f102
noncomputable def Oh :=cI []
def Wr (x:(List Int))(r:Int):St→Prop:=QF Oh Tryz.f102 [false] (HW x) (HX r)
theorem Oi (eB:List Int):cf Oh 0 (Wr eB) (cL (cL (cR (cL (cR (cR Ws)))))) 0 (vR eB) (fun u=>(sT 18 [(3,I (0))] [] 1)) fun x2=>(sT 18 [(3,I (0)),(6,.isl false (eB.map I)),(7,I (len eB)),(8,I x2)] [] 1):=eu (CV eB) fun {Q K} hK self ih x2 y h hr hn=>by
 unfold mM at h
 refine cq 5 [9] [B (decide (x2<(len eB)))] 17 ?_
 refine sq h ?_ ?_<;>intro h
 ·refine aq 1 ?_
  refine aq 4 ?_
  obtain⟨e3,he3,h⟩:=bS h
  refine oq 33 (.iptr (I e3) 0) rfl (ah rfl rfl rfl (cp rfl rfl rfl rfl he3)) ?_
  refine cq 9 [5,14] [I e3,B (e3 != 0)] 113 ?_
  refine sq h ?_ ?_<;>intro h
  ·refine cq 5 [2] [I e3] 145 ?_
   exact bR rfl (hr _ (al h) _ (qp [I e3]))
  ·refine aq 1 ?_
   refine cq 5 [8] [I (ac (x2+1))] 145 ?_
   refine dm ?_
   exact rf [3,6,7,8] [] (ih _ _ h hr hn :)
 ·refine aq 1 ?_
  exact rf [3] [] (hn _ (al h) :) (hk:=hK)
theorem Xk (eB:List Int)(r:Int)(h:Je eB=some r):bN Oh Tryz.f102 [false] 0 (HW eB) (HX r):=by
 show Run _ _ (Wr eB r) [.code Ws] _
 refine rI 18 [(0,.isl false (eB.map I))] [] 1 ?_
 unfold Je at h
 refine cq 12 [3,6] [I (0),.isl false (eB.map I)] 49 ?_
 refine oq 65 (I (len eB)) rfl (cg rfl rfl rfl (du rfl)) ?_
 refine cq 3 [8] [I (0)] 81 ?_
 obtain⟨y4,hy4,hy41,hy42⟩:=bJ h
 refine bO rfl ?_
 refine rf [3,6,7,8] [] (Oi eB rfl 0 _ hy4 (fun r' e st hq=>by rw[hy41 r' e] at hq;exact hq) fun u4 hu=>?_)
 replace h:=hy42 u4 hu
 refine cq 5 [2] [I (0)] 33 ?_
 obtain rfl:=sI h
 exact rP [I (0)]
theorem Uc {G:cD}:ct G 102 FW:=gT 1 0 bP cJ Tryz.func102 (fun a r h=>Xk a r h)
def H2:(Event×Event)→List V:=cA aa (oA aa)
def H3 (r:Int):V×List V:=(I r,[])
noncomputable def lZ :=bA [false,false] H2 H3 fun x=>nq x.1 x.2
theorem fF {a_1:Event}{b_2:Event}{r}(h:nq a_1 b_2=some r):lZ.F (H2 (a_1,b_2))=some (H3 r):=aV (aY ca (aW ca)) h
noncomputable def aaM :=aQ Tryz.f80
noncomputable def Wx :=cI [(103,FT),(104,FU),(102,FW)]
def aaL (x:Event×Event)(r:Int):St→Prop:=QF Wx Tryz.f80 [false,false] (H2 x) (H3 r)
theorem Xu (a_1:Event)(b_2:Event)(r:Int)(h:nq a_1 b_2=some r):bN Wx Tryz.f80 [false,false] 0 (H2 (a_1,b_2)) (H3 r):=by
 show Run _ _ (aaL (a_1,b_2) r) [.code aaM] _
 refine rI 27 [(0,aa a_1),(1,aa b_2)] [] 1 ?_
 unfold nq at h
 refine ck 7 [2,3] [] [1,17] [] [.hp 1 0 [] 4 0 0,.hp 17 0 [] 4 0 0] [some ⟨0,4,[aa a_1]⟩,some ⟨0,4,[aa b_2]⟩] 49 (by kernel_rfl) ?_
 refine cn [0,1,0,4,15,0,32,0,128,511,0,1024,0,4096,16383,0,32768,0,131072,524287,1048575,2097151,4194303] rfl (by decide +kernel) ?_
 refine dq [1] [] (.hp 1 0 [] 4 0 0) rfl (cW rfl rfl rfl) ?_
 refine dq [1] [] (I a_1.Day) rfl (bm rfl rfl) ?_
 refine dq [17] [] (.hp 17 0 [] 4 0 0) rfl (cW rfl rfl rfl) ?_
 refine dq [17] [] (I b_2.Day) rfl (bm rfl rfl) ?_
 obtain⟨r3,hr3,h⟩:=bS h
 refine dq [] [] (I r3) rfl (cP (xz hr3)) ?_ (dK rfl rfl rfl rfl (ba (bl rfl) (ba (bl rfl) cS)) (xz hr3) (.inr rfl) rfl)
 refine dq [1] [] (.hp 1 0 [] 4 0 1) rfl (cW rfl rfl rfl) ?_
 refine dq [1] [] (I a_1.Party) rfl (bm rfl rfl) ?_
 refine dq [17] [] (.hp 17 0 [] 4 0 1) rfl (cW rfl rfl rfl) ?_
 refine dq [17] [] (I b_2.Party) rfl (bm rfl rfl) ?_
 obtain⟨r4,hr4,h⟩:=bS h
 refine dq [] [] (I r4) rfl (cP (xz hr4)) ?_ (dK rfl rfl rfl rfl (ba (bl rfl) (ba (bl rfl) cS)) (xz hr4) (.inr rfl) rfl)
 refine dq [1] [] (.hp 1 0 [] 4 0 2) rfl (cW rfl rfl rfl) ?_
 refine dq [1] [] (str a_1.Action) rfl (bm rfl rfl) ?_
 refine dq [17] [] (.hp 17 0 [] 4 0 2) rfl (cW rfl rfl rfl) ?_
 refine dq [17] [] (str b_2.Action) rfl (bm rfl rfl) ?_
 obtain⟨r5,hr5,h⟩:=bS h
 refine dq [] [] (I r5) rfl (cP (Wp hr5)) ?_ (dK rfl rfl rfl rfl (ba (bl rfl) (ba (bl rfl) cS)) (Wp hr5) (.inr rfl) rfl)
 refine dq [1] [] (.hp 1 0 [] 4 0 3) rfl (cW rfl rfl rfl) ?_
 refine dq [1] [] (I a_1.Amount) rfl (bm rfl rfl) ?_
 refine dq [17] [] (.hp 17 0 [] 4 0 3) rfl (cW rfl rfl rfl) ?_
 refine dq [17] [] (I b_2.Amount) rfl (bm rfl rfl) ?_
 obtain⟨r6,hr6,h⟩:=bS h
 refine dq [] [] (I r6) rfl (cP (xz hr6)) ?_ (dK rfl rfl rfl rfl (ba (bl rfl) (ba (bl rfl) cS)) (xz hr6) (.inr rfl) rfl)
 refine dq [] [] (.hs 369 0 [] 1 0 4) rfl (ec rfl (jh (f:=I) (xs:=[]) (z:=I (0)) (es:=[I r3,I r4,I r5,I r6]) (ws:=[I r3,I r4,I r5,I r6]) rfl rfl rfl (by decide) rfl (dt rfl) rfl)) ?_
 obtain⟨r7,hr7,h⟩:=bS h
 refine dq [369] [] (I r7) rfl (bC rfl rfl (bW rfl rfl rfl (ba (ul rfl rfl (f9 (f:=I) (g:=I) (xs:=[r3,r4,r5,r6]) rfl rfl (eh WU))) cS) (Wq hr7) (.inl rfl) dE rfl rfl rfl)) ?_ (dK rfl rfl rfl rfl (ba (ul rfl rfl (f9 (f:=I) (g:=I) (xs:=[r3,r4,r5,r6]) rfl rfl (eh WU))) cS) (Wq hr7) (.inl rfl) rfl)
 refine dk 1 [4] [I r7] ?_
 refine de 417 rfl rfl ?_
 obtain rfl:=sI h
 exact rP [I r7]
theorem mN {G:cD}:ct G 80 lZ:=gT 2 0 (bb TD (bb TE (bb Uc bP))) cJ Tryz.func80 (fun a r h=>Xu a.1 a.2 r h)
def Dp:((List Event)×Int×Int×Unit)→List V:=cA (kM 4 aa) (cA I (cA I (oA (fun x:Unit=>(.fn 80 []:V)))))
def Dr (r:(List Event)):V×List V:=(.tup [],[.usl 4 (r.map aa)])
noncomputable def AO :=bA [true,false,false,false] Dp Dr fun x=>AN x.1 x.2.1 x.2.2.1 x.2.2.2
theorem Zo {aJ:List Event}{bE:Int}{bK:Int}{aZ:Unit}{r}(h:AN aJ bE bK aZ=some r):AO.F (Dp (aJ,bE,bK,aZ))=some (Dr r):=aV (aY (eL ca) (aY bF (aY bF (aW (im ))))) h
noncomputable def Jr :=aQ Tryz.f117
noncomputable abbrev xB :=cL (cL (cR (cL (cL (cR (cL (cL (cR Jr))))))))
noncomputable def vX :=cI [(80,lZ)]
def Dq (x:(List Event)×Int×Int×Unit)(r:(List Event)):St→Prop:=QF vX Tryz.f117 [true,false,false,false] (Dp x) (Dr r)
theorem LW (aJ:List Event)(bE:Int)(bK:Int)(aZ:Unit)(x5:Int×Int×Int×(List Event)):cf vX 1 (Dq (aJ,bE,bK,aZ)) xB 2 (tx aJ bE bK aZ x5) (fun u=>(sT 53 [(0,.hs 1 0 [] 4 0 (u.map aa).length),(1,I x5.1),(2,I x5.2.1),(3,.fn 80 []),(8,I x5.2.2.1)] [⟨0,4,u.map aa⟩] 2)) fun x6=>(sT 53 [(0,.hs 1 0 [] 4 0 (x6.2.map aa).length),(1,I x5.1),(2,I x5.2.1),(3,.fn 80 []),(8,I x5.2.2.1),(9,I x6.1)] [⟨0,4,x6.2.map aa⟩] 2):=eu (yU aJ bE bK aZ x5) fun {Q K} hK self ih x6 y h hr hn=>by
 unfold ld at h
 refine aq 2 ?_
 refine cn [0,0,3,7,15,15,15,111,239,15,15,1039,3599,7695,16383,32767,65535] rfl (by decide +kernel) ?_
 refine dk 4 [21,20,19,18] [B (decide (x6.1>x5.1)),B (decide (x6.1>x5.1)),I x5.1,I x6.1] ?_
 obtain⟨y7,hy7,hy71,hy72⟩:=bL h
 have j7:∀u7,y7=.inr u7→Run vX 1 Q (.code (cR (cL xB))::.code (cR xB)::.lp xB::.blk 2::K) (sT 53 [(0,.hs 1 0 [] 4 0 (x6.2.map aa).length),(1,I x5.1),(2,I x5.2.1),(3,.fn 80 []),(8,I x5.2.2.1),(9,I x6.1),(34,B u7)] [⟨0,4,x6.2.map aa⟩] 2):=by
  intro u7 hu
  replace h:=hy72 u7 hu
  refine sq h ?_ ?_<;>intro h
  ·refine aq 1 ?_
   refine aq 2 ?_
   refine cn [0,0,0,0,8,0,0,64,224,480,0,0,3072,7168,16355,32739,65535,131071] rfl (by decide +kernel) ?_
   refine dk 8 [44,43,42,41,40,39,38,37] [I (ac (x6.1 - 1)),I x6.1,.hs 1 0 [] 4 0 (x6.2.map aa).length,I (ac (x6.1 - 1)),I x6.1,.hs 1 0 [] 4 0 (x6.2.map aa).length,I x6.1,.hs 1 0 [] 4 0 (x6.2.map aa).length] ?_
   obtain⟨e8,he8,h⟩:=bS h
   refine dq [1] [] (.hp 1 0 [] 4 (0+Int.toNat (ac (x6.1 - 1))) 0) rfl (ah rfl rfl rfl (aL (f:=aa) (xs:=x6.2) rfl rfl rfl he8)) ?_
   refine dq [1] [] (aa e8) rfl (bm rfl (bZ (path:=[]) rfl rfl rfl aw (aB (f:=aa) (xs:=x6.2) he8) rfl rfl rfl)) ?_
   refine dk 2 [48,47] [I x6.1,.hs 1 0 [] 4 0 (x6.2.map aa).length] ?_
   obtain⟨e9,he9,h⟩:=bS h
   refine dq [1] [] (.hp 1 0 [] 4 (0+Int.toNat x6.1) 0) rfl (ah rfl rfl rfl (aL (f:=aa) (xs:=x6.2) rfl rfl rfl he9)) ?_
   refine dq [1] [] (aa e9) rfl (bm rfl (bZ (path:=[]) rfl rfl rfl aw (aB (f:=aa) (xs:=x6.2) he9) rfl rfl rfl)) ?_
   obtain⟨e10,he10,h⟩:=bS h
   refine dq [1] [] (.hp 1 0 [] 4 (0+Int.toNat x6.1) 0) rfl (ah rfl rfl rfl (aL (f:=aa) (xs:=x6.2) rfl rfl rfl he10)) ?_
   refine dz [1] [1] rfl (dl rfl rfl (ch (path:=[]) (pl:=true) (e':=aa e8) (es2':=(aK x6.2 x6.1 e8).map aa) rfl (ap rfl) rfl rfl rfl aw (aB (f:=aa) (xs:=x6.2) he10) rfl rfl rfl (eK (f:=aa) (xs:=x6.2) (y:=e8)) cl 0 rfl)) ?_
   try rw[←ep (f:=aa) (xs:=x6.2) (i:=x6.1) (z:=e8)]
   obtain⟨e13,he13,h⟩:=bS h
   refine dq [1] [] (.hp 1 0 [] 4 (0+Int.toNat (ac (x6.1 - 1))) 0) rfl (ah rfl rfl rfl (aL (f:=aa) (xs:=(aK x6.2 x6.1 e8)) rfl rfl rfl he13)) ?_
   obtain⟨rw14,hrw14,h⟩:=lJ h
   refine dz [1] [1] rfl (dl rfl rfl (ch (path:=[]) (pl:=true) (e':=aa e9) (es2':=(rw14).map aa) rfl (ap rfl) rfl rfl rfl aw (aB (f:=aa) (xs:=(aK x6.2 x6.1 e8)) he13) rfl rfl rfl (dB (f:=aa) (xs:=(aK x6.2 x6.1 e8)) (y:=e9) hrw14) cl 0 rfl)) ?_
   try rw[←cu hrw14 (f:=aa) (xs:=(aK x6.2 x6.1 e8))]
   refine de 290 rfl rfl ?_
   refine cq 6 [9] [I (ac (x6.1 - 1))] 338 ?_
   refine dm ?_
   exact rf [0,1,2,3,8,9] [1] (ih _ _ h hr hn :)
  ·refine aq 1 ?_
   exact rf [0,1,2,3,8] [1] (hn _ (al h) :) (hk:=hK)
 have r7:∀r',y7=.inl r'→∀st,Dq (aJ,bE,bK,aZ) r' st→Q st:=fun r' e st hq=>hr r' (hy71 r' e) st hq
 replace h:=hy7
 refine sp 21 h rfl ?_ ?_<;>intro h
 ·refine dk 3 [24,23,22] [I x6.1,.hs 1 0 [] 4 0 (x6.2.map aa).length,.fn 80 []] ?_
  obtain⟨e18,he18,h⟩:=bS h
  refine dy [1] [] (.hp 1 0 [] 4 (0+Int.toNat x6.1) 0) rfl (ah rfl rfl rfl (aL (f:=aa) (xs:=x6.2) rfl rfl rfl he18)) ?_
  refine dy [1] [] (aa e18) rfl (bm rfl (bZ (path:=[]) rfl rfl rfl aw (aB (f:=aa) (xs:=x6.2) he18) rfl rfl rfl)) ?_
  refine dk 3 [29,28,27] [I (ac (x6.1 - 1)),I x6.1,.hs 1 0 [] 4 0 (x6.2.map aa).length] ?_
  obtain⟨e19,he19,h⟩:=bS h
  refine dy [1] [] (.hp 1 0 [] 4 (0+Int.toNat (ac (x6.1 - 1))) 0) rfl (ah rfl rfl rfl (aL (f:=aa) (xs:=x6.2) rfl rfl rfl he19)) ?_
  refine dy [1] [] (aa e19) rfl (bm rfl (bZ (path:=[]) rfl rfl rfl aw (aB (f:=aa) (xs:=x6.2) he19) rfl rfl rfl)) ?_
  obtain⟨r20,hr20,h⟩:=bS h
  refine dy [] [] (I r20) rfl (cP (fF hr20)) ?_ (dK rfl rfl rfl rfl (ba (bl rfl) (ba (bl rfl) cS)) (fF hr20) (.inr rfl) rfl)
  refine dk 2 [34,33] [B (decide (r20<0)),B (decide (r20<0))] ?_
  refine de 274 rfl rfl ?_
  exact rf [0,1,2,3,8,9,34] [1] (j7 _ (al h) :)
 ·refine dk 13 [34,33,32,31,30,29,28,27,26,25,24,23,22] [B false,.und,.und,.und,.und,.und,.und,.und,.und,.und,.und,.und,.und] ?_
  refine de 274 rfl rfl ?_
  exact rf [0,1,2,3,8,9,34] [1] (j7 _ (al h) :)
theorem LV (aJ:List Event)(bE:Int)(bK:Int)(aZ:Unit):cf vX 1 (Dq (aJ,bE,bK,aZ)) (cL (cL (cR Jr))) 0 (tw aJ bE bK aZ) (fun u=>(sT 53 [] [⟨0,4,u.map aa⟩] 2)) fun x5=>(sT 53 [(0,.hs 1 0 [] 4 0 (x5.2.2.2.map aa).length),(1,I x5.1),(2,I x5.2.1),(3,.fn 80 []),(8,I x5.2.2.1)] [⟨0,4,x5.2.2.2.map aa⟩] 2):=eu (yT aJ bE bK aZ) fun {Q K} hK self ih x5 y h hr hn=>by
 unfold lc at h
 refine cq 7 [14] [B (decide (x5.2.2.1<x5.2.1))] 50 ?_
 refine sq h ?_ ?_<;>intro h
 ·refine aq 1 ?_
  refine cq 8 [9] [I x5.2.2.1] 82 ?_
  obtain⟨y21,hy21,hy211,hy212⟩:=bL h
  refine bO rfl ?_
  refine rf [0,1,2,3,8,9] [1] (LW aJ bE bK aZ x5 rfl (x5.2.2.1,x5.2.2.2) _ hy21 (fun r' e st hq=>hr r' (hy211 r' e) st hq) fun u21 hu=>?_)
  replace h:=hy212 u21 hu
  refine cq 6 [8] [I (ac (x5.2.2.1+1))] 50 ?_
  refine dm ?_
  exact rf [0,1,2,3,8] [1] (ih _ _ h hr hn :)
 ·refine aq 1 ?_
  exact rf [] [1] (hn _ (al h) :) (hk:=hK)
theorem Uo (aJ:List Event)(bE:Int)(bK:Int)(aZ:Unit)(r:(List Event))(h:AN aJ bE bK aZ=some r):bN vX Tryz.f117 [true,false,false,false] 1 (Dp (aJ,bE,bK,aZ)) (Dr r):=by
 show Run _ _ (Dq (aJ,bE,bK,aZ) r) [.code Jr] _
 refine rI 53 [(0,.hs 1 0 [] 4 0 (aJ.map aa).length),(1,I bE),(2,I bK),(3,.fn 80 [])] [(1,some ⟨0,4,aJ.map aa⟩)] 2 ?_
 unfold AN at h
 refine cq 7 [8] [I (ac (bE+1))] 50 ?_
 obtain⟨y22,hy22,hy221,hy222⟩:=bJ h
 refine bO rfl ?_
 refine rf [0,1,2,3,8] [1] (LV aJ bE bK aZ rfl (bE,bK,(ac (bE+1)),aJ) _ hy22 (fun r' e st hq=>by rw[hy221 r' e] at hq;exact hq) fun u22 hu=>?_)
 replace h:=hy222 u22 hu
 obtain⟨g23,h⟩:=gG h
 obtain rfl:=sI h
 exact yj ⟨_,fin (vs:=[]) rfl cX rfl (fy rfl (gp (f:=aa) (xs:=u22) (by simpa using g23) rfl) (bH (bH (bH d4)))),iA dX⟩
theorem Q3 {G:cD}:ct G 117 AO:=gT 4 1 (bb mN bP) cJ Tryz.func117 (fun a r h=>Uo a.1 a.2.1 a.2.2.1 a.2.2.2 r h)
def DM:((List Event)×Int×Int×Int×Unit)→List V:=cA (kM 4 aa) (cA I (cA I (cA I (oA (fun x:Unit=>(.fn 80 []:V))))))
def DN (r:(List Event)):V×List V:=(.tup [],[.usl 4 (r.map aa)])
noncomputable def A4 :=bA [true,false,false,false,false] DM DN fun x=>F3 x.1 x.2.1 x.2.2.1 x.2.2.2.1 x.2.2.2.2
theorem Rm {eE:List Event}{gD:Int}{fB:Int}{bf:Int}{gy:Unit}{r}(h:F3 eE gD fB bf gy=some r):A4.F (DM (eE,gD,fB,bf,gy))=some (DN r):=aV (aY (eL ca) (aY bF (aY bF (aY bF (aW (im )))))) h
noncomputable def qF :=aQ Tryz.f141
noncomputable def v7 :=cI [(80,lZ)]
def JB (x:(List Event)×Int×Int×Int×Unit)(r:(List Event)):St→Prop:=QF v7 Tryz.f141 [true,false,false,false,false] (DM x) (DN r)
theorem Mq (eE:List Event)(gD:Int)(fB:Int)(bf:Int)(gy:Unit):cf v7 1 (JB (eE,gD,fB,bf,gy)) (cL (cL (cR qF))) 0 (Np eE gD fB bf gy) (fun u=>(sT 82 [] [⟨0,4,u.map aa⟩] 2)) fun x6=>(sT 82 [(0,.hs 1 0 [] 4 0 (x6.2.map aa).length),(2,I fB),(3,I bf),(4,.fn 80 []),(10,I x6.1)] [⟨0,4,x6.2.map aa⟩] 2):=eu (Mp eE gD fB bf gy) fun {Q K} hK self ih x6 y h hr hn=>by
 unfold rR at h
 refine cq 15 [11,18] [I (ac ((ac (2*x6.1))+1)),B (decide ((ac ((ac (2*x6.1))+1))≥fB))] 114 ?_
 refine sq h ?_ ?_<;>intro h
 ·refine aq 1 ?_
  exact rf [] [1] (hn _ (al h) :) (hk:=hK)
 ·refine aq 1 ?_
  refine aq 2 ?_
  refine cn [0,1,0,7,15,31,31,31,31,415,991,2015,31,31,31,24607,57375,127007,258079,524287,1048575,2097151] rfl (by decide +kernel) ?_
  refine dk 5 [23,22,21,20,19] [B (decide ((ac ((ac ((ac (2*x6.1))+1))+1))<fB)),B (decide ((ac ((ac ((ac (2*x6.1))+1))+1))<fB)),I fB,I (ac ((ac ((ac (2*x6.1))+1))+1)),I (ac ((ac (2*x6.1))+1))] ?_
  obtain⟨y7,hy7,hy71,hy72⟩:=bL h
  have j7:∀u7,y7=.inr u7→Run v7 1 Q (.code (cR (cL (cR (cR (cL (cL (cL (cR qF))))))))::.code (cR (cR (cR (cL (cL (cL (cR qF)))))))::.blk 1::.lp (cL (cL (cR qF)))::.blk 0::K) (sT 82 [(0,.hs 1 0 [] 4 0 (x6.2.map aa).length),(2,I fB),(3,I bf),(4,.fn 80 []),(10,I x6.1),(11,I (ac ((ac (2*x6.1))+1))),(40,B u7)] [⟨0,4,x6.2.map aa⟩] 2):=by
   intro u7 hu
   replace h:=hy72 u7 hu
   obtain⟨u8,hu8,h⟩:=lJ h
   have j8:Run v7 1 Q (.code (cR (cR (cR (cL (cL (cL (cR qF)))))))::.blk 1::.lp (cL (cL (cR qF)))::.blk 0::K) (sT 82 [(0,.hs 1 0 [] 4 0 (x6.2.map aa).length),(2,I fB),(3,I bf),(4,.fn 80 []),(10,I x6.1),(11,I u8)] [⟨0,4,x6.2.map aa⟩] 2):=by
    refine aq 2 ?_
    refine cn [0,0,0,0,12,30,62,0,0,0,768,1920,3968,8191,16383,32767] rfl (by decide +kernel) ?_
    refine dk 5 [47,46,45,44,43] [I (ac (bf+x6.1)),I x6.1,I bf,.hs 1 0 [] 4 0 (x6.2.map aa).length,.fn 80 []] ?_
    obtain⟨e9,he9,h⟩:=bS h
    refine dq [1] [] (.hp 1 0 [] 4 (0+Int.toNat (ac (bf+x6.1))) 0) rfl (ah rfl rfl rfl (aL (f:=aa) (xs:=x6.2) rfl rfl rfl he9)) ?_
    refine dq [1] [] (aa e9) rfl (bm rfl (bZ (path:=[]) rfl rfl rfl aw (aB (f:=aa) (xs:=x6.2) he9) rfl rfl rfl)) ?_
    refine dk 4 [53,52,51,50] [I (ac (bf+u8)),I u8,I bf,.hs 1 0 [] 4 0 (x6.2.map aa).length] ?_
    obtain⟨e10,he10,h⟩:=bS h
    refine dq [1] [] (.hp 1 0 [] 4 (0+Int.toNat (ac (bf+u8))) 0) rfl (ah rfl rfl rfl (aL (f:=aa) (xs:=x6.2) rfl rfl rfl he10)) ?_
    refine dq [1] [] (aa e10) rfl (bm rfl (bZ (path:=[]) rfl rfl rfl aw (aB (f:=aa) (xs:=x6.2) he10) rfl rfl rfl)) ?_
    obtain⟨r11,hr11,h⟩:=bS h
    refine dq [] [] (I r11) rfl (cP (fF hr11)) ?_ (dK rfl rfl rfl rfl (ba (bl rfl) (ba (bl rfl) cS)) (fF hr11) (.inr rfl) rfl)
    refine dk 2 [58,57] [B (!(decide (r11<0))),B (decide (r11<0))] ?_
    refine de 258 rfl rfl ?_
    refine sq h ?_ ?_<;>intro h
    ·obtain⟨g12,h⟩:=gG h
     exact bR rfl (hr _ (al h) _ ⟨_,fin (vs:=[]) rfl cX rfl (fy rfl (gp (f:=aa) (xs:=x6.2) (by simpa using g12) rfl) (bH (bH (bH (bH d4))))),iA dX⟩)
    ·refine aq 1 ?_
     refine aq 1 ?_
     refine cn [0,0,0,6,0,0,0,96,0,0,0,1536,3840,7936,0,0,0,98304,245760,507904,1048335,2096911,4194303,8388607] rfl (by decide +kernel) ?_
     refine dk 12 [70,69,68,67,66,65,64,63,62,61,60,59] [I (ac (bf+u8)),I u8,I bf,.hs 1 0 [] 4 0 (x6.2.map aa).length,I (ac (bf+u8)),I u8,I bf,.hs 1 0 [] 4 0 (x6.2.map aa).length,I (ac (bf+x6.1)),I x6.1,I bf,.hs 1 0 [] 4 0 (x6.2.map aa).length] ?_
     obtain⟨e13,he13,h⟩:=bS h
     refine dq [1] [] (.hp 1 0 [] 4 (0+Int.toNat (ac (bf+u8))) 0) rfl (ah rfl rfl rfl (aL (f:=aa) (xs:=x6.2) rfl rfl rfl he13)) ?_
     refine dq [1] [] (aa e13) rfl (bm rfl (bZ (path:=[]) rfl rfl rfl aw (aB (f:=aa) (xs:=x6.2) he13) rfl rfl rfl)) ?_
     refine dk 4 [76,75,74,73] [I (ac (bf+x6.1)),I x6.1,I bf,.hs 1 0 [] 4 0 (x6.2.map aa).length] ?_
     obtain⟨e14,he14,h⟩:=bS h
     refine dq [1] [] (.hp 1 0 [] 4 (0+Int.toNat (ac (bf+x6.1))) 0) rfl (ah rfl rfl rfl (aL (f:=aa) (xs:=x6.2) rfl rfl rfl he14)) ?_
     refine dq [1] [] (aa e14) rfl (bm rfl (bZ (path:=[]) rfl rfl rfl aw (aB (f:=aa) (xs:=x6.2) he14) rfl rfl rfl)) ?_
     obtain⟨e15,he15,h⟩:=bS h
     refine dq [1] [] (.hp 1 0 [] 4 (0+Int.toNat (ac (bf+x6.1))) 0) rfl (ah rfl rfl rfl (aL (f:=aa) (xs:=x6.2) rfl rfl rfl he15)) ?_
     refine dz [1] [1] rfl (dl rfl rfl (ch (path:=[]) (pl:=true) (e':=aa e13) (es2':=(aK x6.2 (ac (bf+x6.1)) e13).map aa) rfl (ap rfl) rfl rfl rfl aw (aB (f:=aa) (xs:=x6.2) he15) rfl rfl rfl (eK (f:=aa) (xs:=x6.2) (y:=e13)) cl 0 rfl)) ?_
     try rw[←ep (f:=aa) (xs:=x6.2) (i:=(ac (bf+x6.1))) (z:=e13)]
     obtain⟨e20,he20,h⟩:=bS h
     refine dq [1] [] (.hp 1 0 [] 4 (0+Int.toNat (ac (bf+u8))) 0) rfl (ah rfl rfl rfl (aL (f:=aa) (xs:=(aK x6.2 (ac (bf+x6.1)) e13)) rfl rfl rfl he20)) ?_
     obtain⟨rw21,hrw21,h⟩:=lJ h
     refine dz [1] [1] rfl (dl rfl rfl (ch (path:=[]) (pl:=true) (e':=aa e14) (es2':=(rw21).map aa) rfl (ap rfl) rfl rfl rfl aw (aB (f:=aa) (xs:=(aK x6.2 (ac (bf+x6.1)) e13)) he20) rfl rfl rfl (dB (f:=aa) (xs:=(aK x6.2 (ac (bf+x6.1)) e13)) (y:=e14) hrw21) cl 0 rfl)) ?_
     try rw[←cu hrw21 (f:=aa) (xs:=(aK x6.2 (ac (bf+x6.1)) e13))]
     refine de 642 rfl rfl ?_
     refine cq 5 [10] [I u8] 674 ?_
     refine dm ?_
     exact rf [0,2,3,4,10] [1] (ih _ _ h hr hn :)
   replace h:=hu8
   clear hu8
   refine sk h rfl rfl ?_ ?_<;>intro h
   ·refine cq 5 [11] [I (ac ((ac ((ac (2*x6.1))+1))+1))] 50 ?_
    subst h
    exact rf [0,2,3,4,10,11] [1] (j8 :)
   ·refine aq 1 ?_
    subst h
    exact rf [0,2,3,4,10,11] [1] (j8 :)
  have r7:∀r',y7=.inl r'→∀st,JB (eE,gD,fB,bf,gy) r' st→Q st:=fun r' e st hq=>hr r' (hy71 r' e) st hq
  replace h:=hy7
  refine sp 23 h rfl ?_ ?_<;>intro h
  ·refine dk 5 [28,27,26,25,24] [I (ac (bf+(ac ((ac (2*x6.1))+1)))),I (ac ((ac (2*x6.1))+1)),I bf,.hs 1 0 [] 4 0 (x6.2.map aa).length,.fn 80 []] ?_
   obtain⟨e27,he27,h⟩:=bS h
   refine dy [1] [] (.hp 1 0 [] 4 (0+Int.toNat (ac (bf+(ac ((ac (2*x6.1))+1))))) 0) rfl (ah rfl rfl rfl (aL (f:=aa) (xs:=x6.2) rfl rfl rfl he27)) ?_
   refine dy [1] [] (aa e27) rfl (bm rfl (bZ (path:=[]) rfl rfl rfl aw (aB (f:=aa) (xs:=x6.2) he27) rfl rfl rfl)) ?_
   refine dk 5 [35,34,33,32,31] [I (ac ((ac (bf+(ac ((ac (2*x6.1))+1))))+1)),I (ac (bf+(ac ((ac (2*x6.1))+1)))),I (ac ((ac (2*x6.1))+1)),I bf,.hs 1 0 [] 4 0 (x6.2.map aa).length] ?_
   obtain⟨e28,he28,h⟩:=bS h
   refine dy [1] [] (.hp 1 0 [] 4 (0+Int.toNat (ac ((ac (bf+(ac ((ac (2*x6.1))+1))))+1))) 0) rfl (ah rfl rfl rfl (aL (f:=aa) (xs:=x6.2) rfl rfl rfl he28)) ?_
   refine dy [1] [] (aa e28) rfl (bm rfl (bZ (path:=[]) rfl rfl rfl aw (aB (f:=aa) (xs:=x6.2) he28) rfl rfl rfl)) ?_
   obtain⟨r29,hr29,h⟩:=bS h
   refine dy [] [] (I r29) rfl (cP (fF hr29)) ?_ (dK rfl rfl rfl rfl (ba (bl rfl) (ba (bl rfl) cS)) (fF hr29) (.inr rfl) rfl)
   refine dk 2 [40,39] [B (decide (r29<0)),B (decide (r29<0))] ?_
   refine de 466 rfl rfl ?_
   exact rf [0,2,3,4,10,11,40] [1] (j7 _ (al h) :)
  ·refine dk 17 [40,39,38,37,36,35,34,33,32,31,30,29,28,27,26,25,24] [B false,.und,.und,.und,.und,.und,.und,.und,.und,.und,.und,.und,.und,.und,.und,.und,.und] ?_
   refine de 466 rfl rfl ?_
   exact rf [0,2,3,4,10,11,40] [1] (j7 _ (al h) :)
theorem UA (eE:List Event)(gD:Int)(fB:Int)(bf:Int)(gy:Unit)(r:(List Event))(h:F3 eE gD fB bf gy=some r):bN v7 Tryz.f141 [true,false,false,false,false] 1 (DM (eE,gD,fB,bf,gy)) (DN r):=by
 show Run _ _ (JB (eE,gD,fB,bf,gy) r) [.code qF] _
 refine rI 82 [(0,.hs 1 0 [] 4 0 (eE.map aa).length),(1,I gD),(2,I fB),(3,I bf),(4,.fn 80 [])] [(1,some ⟨0,4,eE.map aa⟩)] 2 ?_
 unfold F3 at h
 refine cq 6 [10] [I gD] 34 ?_
 obtain⟨y30,hy30,hy301,hy302⟩:=bJ h
 refine bO rfl ?_
 refine rf [0,2,3,4,10] [1] (Mq eE gD fB bf gy rfl (gD,eE) _ hy30 (fun r' e st hq=>by rw[hy301 r' e] at hq;exact hq) fun u30 hu=>?_)
 replace h:=hy302 u30 hu
 obtain⟨g31,h⟩:=gG h
 obtain rfl:=sI h
 exact yj ⟨_,fin (vs:=[]) rfl cX rfl (fy rfl (gp (f:=aa) (xs:=u30) (by simpa using g31) rfl) (bH (bH (bH (bH d4))))),iA dX⟩
theorem Rn {G:cD}:ct G 141 A4:=gT 5 1 (bb mN bP) cJ Tryz.func141 (fun a r h=>UA a.1 a.2.1 a.2.2.1 a.2.2.2.1 a.2.2.2.2 r h)
def Dl:((List Event)×Int×Int×Unit)→List V:=cA (kM 4 aa) (cA I (cA I (oA (fun x:Unit=>(.fn 80 []:V)))))
def Dn (r:(List Event)):V×List V:=(.tup [],[.usl 4 (r.map aa)])
noncomputable def AM :=bA [true,false,false,false] Dl Dn fun x=>Jo x.1 x.2.1 x.2.2.1 x.2.2.2
theorem Zn {dJ:List Event}{eH:Int}{fh:Int}{eF:Unit}{r}(h:Jo dJ eH fh eF=some r):AM.F (Dl (dJ,eH,fh,eF))=some (Dn r):=aV (aY (eL ca) (aY bF (aY bF (aW (im ))))) h
noncomputable def Jq :=aQ Tryz.f118
noncomputable def Dm :=cI [(141,A4)]
def Jp (x:(List Event)×Int×Int×Unit)(r:(List Event)):St→Prop:=QF Dm Tryz.f118 [true,false,false,false] (Dl x) (Dn r)
theorem LS (dJ:List Event)(eH:Int)(fh:Int)(eF:Unit):cf Dm 1 (Jp (dJ,eH,fh,eF)) (cL (cL (cR (cL (cR (cR (cR Jq))))))) 0 (M8 dJ eH fh eF) (fun u=>(sT 60 [(0,.hs 1 0 [] 4 0 (u.2.2.map aa).length),(3,.fn 80 []),(8,I u.1),(9,I (0)),(10,I u.2.1)] [⟨0,4,u.2.2.map aa⟩] 2)) fun x5=>(sT 60 [(0,.hs 1 0 [] 4 0 (x5.2.map aa).length),(3,.fn 80 []),(8,I eH),(9,I (0)),(10,I (ac (fh - eH))),(11,I x5.1)] [⟨0,4,x5.2.map aa⟩] 2):=eu (LR dJ eH fh eF) fun {Q K} hK self ih x5 y h hr hn=>by
 unfold rA at h
 refine cq 6 [21] [B (decide (x5.1≥0))] 34 ?_
 refine sq h ?_ ?_<;>intro h
 ·refine aq 1 ?_
  refine cq 8 [24,25,26,27,28] [.hs 1 0 [] 4 0 (x5.2.map aa).length,I x5.1,I (ac (fh - eH)),I eH,.fn 80 []] 114 ?_
  obtain⟨r6,hr6,h⟩:=bS h
  obtain⟨g7,h⟩:=gG h
  refine oq 130 (.tup []) rfl (bC rfl rfl (bW rfl rfl rfl (gm (ge rfl (eP (path:=[]) rfl rfl aw rfl)) (ba (bl rfl) (ba (bl rfl) (ba (bl rfl) (ba (bl rfl) cS))))) (Rm hr6) (.inr rfl) (fi rfl rfl rfl rfl dE) rfl rfl rfl)) ?_
  try rw[eU (f:=aa) (xs:=x5.2) (ys:=r6) g7]
  refine cq 7 [11] [I (ac (x5.1 - 1))] 178 ?_
  refine dm ?_
  exact rf [0,3,8,9,10,11] [1] (ih _ _ h hr hn :)
 ·refine aq 1 ?_
  exact rf [0,3,8,9,10] [1] (hn _ (al h) :) (hk:=hK)
theorem LU (dJ:List Event)(eH:Int)(fh:Int)(eF:Unit)(u8:Int×Int×(List Event)):cf Dm 1 (Jp (dJ,eH,fh,eF)) (cL (cL (cR (cR (cR (cR (cR Jq))))))) 2 (M9 dJ eH fh eF u8) (fun u=>(sT 60 [] [⟨0,4,u.map aa⟩] 2)) fun x9=>(sT 60 [(0,.hs 1 0 [] 4 0 (x9.2.map aa).length),(3,.fn 80 []),(8,I u8.1),(9,I (0)),(12,I x9.1)] [⟨0,4,x9.2.map aa⟩] 2):=eu (LT dJ eH fh eF u8) fun {Q K} hK self ih x9 y h hr hn=>by
 unfold rB at h
 refine cq 6 [33] [B (decide (x9.1≥0))] 34 ?_
 refine sq h ?_ ?_<;>intro h
 ·refine aq 1 ?_
  refine aq 3 ?_
  refine cn [0,0,0,0,0,24,0,0,0,384,960,1984,0,0,12288,28672,65475,131011,262143,524287] rfl (by decide +kernel) ?_
  refine dk 10 [45,44,43,42,41,40,39,38,37,36] [I (ac (u8.1+x9.1)),I x9.1,I u8.1,.hs 1 0 [] 4 0 (x9.2.map aa).length,I (ac (u8.1+x9.1)),I x9.1,I u8.1,.hs 1 0 [] 4 0 (x9.2.map aa).length,I u8.1,.hs 1 0 [] 4 0 (x9.2.map aa).length] ?_
  obtain⟨e10,he10,h⟩:=bS h
  refine dq [1] [] (.hp 1 0 [] 4 (0+Int.toNat (ac (u8.1+x9.1))) 0) rfl (ah rfl rfl rfl (aL (f:=aa) (xs:=x9.2) rfl rfl rfl he10)) ?_
  refine dq [1] [] (aa e10) rfl (bm rfl (bZ (path:=[]) rfl rfl rfl aw (aB (f:=aa) (xs:=x9.2) he10) rfl rfl rfl)) ?_
  refine dk 2 [49,48] [I u8.1,.hs 1 0 [] 4 0 (x9.2.map aa).length] ?_
  obtain⟨e11,he11,h⟩:=bS h
  refine dq [1] [] (.hp 1 0 [] 4 (0+Int.toNat u8.1) 0) rfl (ah rfl rfl rfl (aL (f:=aa) (xs:=x9.2) rfl rfl rfl he11)) ?_
  refine dq [1] [] (aa e11) rfl (bm rfl (bZ (path:=[]) rfl rfl rfl aw (aB (f:=aa) (xs:=x9.2) he11) rfl rfl rfl)) ?_
  obtain⟨e12,he12,h⟩:=bS h
  refine dq [1] [] (.hp 1 0 [] 4 (0+Int.toNat u8.1) 0) rfl (ah rfl rfl rfl (aL (f:=aa) (xs:=x9.2) rfl rfl rfl he12)) ?_
  refine dz [1] [1] rfl (dl rfl rfl (ch (path:=[]) (pl:=true) (e':=aa e10) (es2':=(aK x9.2 u8.1 e10).map aa) rfl (ap rfl) rfl rfl rfl aw (aB (f:=aa) (xs:=x9.2) he12) rfl rfl rfl (eK (f:=aa) (xs:=x9.2) (y:=e10)) cl 0 rfl)) ?_
  try rw[←ep (f:=aa) (xs:=x9.2) (i:=u8.1) (z:=e10)]
  obtain⟨e15,he15,h⟩:=bS h
  refine dq [1] [] (.hp 1 0 [] 4 (0+Int.toNat (ac (u8.1+x9.1))) 0) rfl (ah rfl rfl rfl (aL (f:=aa) (xs:=(aK x9.2 u8.1 e10)) rfl rfl rfl he15)) ?_
  obtain⟨rw16,hrw16,h⟩:=lJ h
  refine dz [1] [1] rfl (dl rfl rfl (ch (path:=[]) (pl:=true) (e':=aa e11) (es2':=(rw16).map aa) rfl (ap rfl) rfl rfl rfl aw (aB (f:=aa) (xs:=(aK x9.2 u8.1 e10)) he15) rfl rfl rfl (dB (f:=aa) (xs:=(aK x9.2 u8.1 e10)) (y:=e11) hrw16) cl 0 rfl)) ?_
  try rw[←cu hrw16 (f:=aa) (xs:=(aK x9.2 u8.1 e10))]
  refine de 354 rfl rfl ?_
  refine cq 6 [54,55,56,57,58] [.hs 1 0 [] 4 0 (rw16.map aa).length,I (0),I x9.1,I u8.1,.fn 80 []] 434 ?_
  obtain⟨r20,hr20,h⟩:=bS h
  obtain⟨g21,h⟩:=gG h
  refine oq 450 (.tup []) rfl (bC rfl rfl (bW rfl rfl rfl (gm (ge rfl (eP (path:=[]) rfl rfl aw rfl)) (ba (bl rfl) (ba (bl rfl) (ba (bl rfl) (ba (bl rfl) cS))))) (Rm hr20) (.inr rfl) (fi rfl rfl rfl rfl dE) rfl rfl rfl)) ?_
  try rw[eU (f:=aa) (xs:=rw16) (ys:=r20) g21]
  refine cq 7 [12] [I (ac (x9.1 - 1))] 498 ?_
  refine dm ?_
  exact rf [0,3,8,9,12] [1] (ih _ _ h hr hn :)
 ·refine aq 1 ?_
  exact rf [] [1] (hn _ (al h) :) (hk:=hK)
theorem Um (dJ:List Event)(eH:Int)(fh:Int)(eF:Unit)(r:(List Event))(h:Jo dJ eH fh eF=some r):bN Dm Tryz.f118 [true,false,false,false] 1 (Dl (dJ,eH,fh,eF)) (Dn r):=by
 show Run _ _ (Jp (dJ,eH,fh,eF) r) [.code Jq] _
 refine rI 60 [(0,.hs 1 0 [] 4 0 (dJ.map aa).length),(1,I eH),(2,I fh),(3,.fn 80 [])] [(1,some ⟨0,4,dJ.map aa⟩)] 2 ?_
 unfold Jo at h
 refine cq 25 [8,9,10,11] [I eH,I (0),I (ac (fh - eH)),I (ac ((ac ((ac (fh - eH)) - 1)).tdiv 2))] 178 ?_
 obtain⟨y8,hy8,hy81,hy82⟩:=bJ h
 refine bO rfl ?_
 refine rf [0,3,8,9,10,11] [1] (LS dJ eH fh eF rfl ((ac ((ac ((ac (fh - eH)) - 1)).tdiv 2)),dJ) _ hy8 (fun r' e st hq=>by rw[hy81 r' e] at hq;exact hq) fun u8 hu=>?_)
 replace h:=hy82 u8 hu
 refine cq 7 [12] [I (ac (u8.2.1 - 1))] 50 ?_
 obtain⟨y22,hy22,hy221,hy222⟩:=bJ h
 refine bO rfl ?_
 refine rf [0,3,8,9,12] [1] (LU dJ eH fh eF u8 rfl ((ac (u8.2.1 - 1)),u8.2.2) _ hy22 (fun r' e st hq=>by rw[hy221 r' e] at hq;exact hq) fun u22 hu=>?_)
 replace h:=hy222 u22 hu
 obtain⟨g23,h⟩:=gG h
 obtain rfl:=sI h
 exact yj ⟨_,fin (vs:=[]) rfl cX rfl (fy rfl (gp (f:=aa) (xs:=u22) (by simpa using g23) rfl) (bH (bH (bH d4)))),iA dX⟩
theorem Q2 {G:cD}:ct G 118 AM:=gT 4 1 (bb Rn bP) cJ Tryz.func118 (fun a r h=>Um a.1 a.2.1 a.2.2.1 a.2.2.2 r h)
def Dy:Int→List V:=oA I
def Dz (r:Int):V×List V:=(.int .u64 r,[])
noncomputable def AR :=bA [false] Dy Dz fun x=>Jt x
theorem Zt {ju:Int}{r}(h:Jt ju=some r):AR.F (Dy ju)=some (Dz r):=aV (aW bF) h
noncomputable def Zv :=aQ Tryz.f142
noncomputable def Q8 :=cI [(101,uu)]
def Zu (x:Int)(r:Int):St→Prop:=QF Q8 Tryz.f142 [false] (Dy x) (Dz r)
theorem Us (ju:Int)(r:Int)(h:Jt ju=some r):bN Q8 Tryz.f142 [false] 0 (Dy ju) (Dz r):=by
 show Run _ _ (Zu ju r) [.code Zv] _
 refine rI 7 [(0,I ju)] [] 1 ?_
 unfold Jt at h
 refine cq 8 [4] [.int .u64 (IntKind.u64.wrap ju)] 49 ?_
 obtain⟨r2,hr2,h⟩:=bS h
 refine oq 65 (I r2) rfl (cP (QL hr2)) ?_
 obtain⟨q3,hq3,h⟩:=bS h
 refine oq 81 (.int .u64 q3) rfl (xT rfl rfl (abi hq3)) ?_
 refine cq 2 [2] [.int .u64 q3] 97 ?_
 obtain rfl:=sI h
 exact rP [.int .u64 q3]
theorem Q9 {G:cD}:ct G 142 AR:=gT 1 0 (bb GU bP) cJ Tryz.func142 (fun a r h=>Us a r h)
def DP:Int→List V:=oA (Xc (V.int .u64))
def DQ (r:Int×Int):V×List V:=(.int .u64 r.1,[.uptr (.int .u64 r.2)])
noncomputable def A5 :=bA [true] DP DQ fun x=>JC x
theorem ZD {r_2:Int}{r}(h:JC r_2=some r):A5.F (DP r_2)=some (DQ r):=aV (aW (vl (ro (k:=.u64)))) h
noncomputable def ZF :=aQ Tryz.f143
noncomputable def Ro :=cI []
def ZE (x:Int)(r:Int×Int):St→Prop:=QF Ro Tryz.f143 [true] (DP x) (DQ r)
theorem UB (r_2:Int)(r:Int×Int)(h:JC r_2=some r):bN Ro Tryz.f143 [true] 1 (DP r_2) (DQ r):=by
 show Run _ _ (ZE r_2 r) [.code ZF] _
 refine rI 33 [(0,.hp 1 0 [] 1 0 0)] [(1,some ⟨0,1,[.int .u64 r_2]⟩)] 2 ?_
 unfold JC at h
 refine cq 5 [] [] 18 ?_
 refine cn [0,1,3,0,8,24,56,127,255,511] rfl (by decide +kernel) ?_
 refine dk 1 [3] [.hp 1 0 [] 1 0 0] ?_
 refine dq [1] [] (.hp 1 0 [] 1 0 0) rfl (iL rfl rfl) ?_
 refine dq [1] [] (.int .u64 r_2) rfl (bm rfl rfl) ?_
 refine dk 1 [6] [.hp 1 0 [] 1 0 0] ?_
 refine dq [1] [] (.hp 1 0 [] 1 0 0) rfl (iL rfl rfl) ?_
 refine dq [1] [] (.int .u64 r_2) rfl (bm rfl rfl) ?_
 refine dk 2 [10,9] [.int .u64 (cN .u64 r_2 (d5 .u64 r_2 13)),.int .u64 (d5 .u64 r_2 13)] ?_
 refine dq [1] [] (.hp 1 0 [] 1 0 0) rfl (iL rfl rfl) ?_
 refine dz [1] [1] rfl (dl rfl rfl (ch (path:=[]) (pl:=true) (e':=.int .u64 (cN .u64 r_2 (d5 .u64 r_2 13))) (es2':=[.int .u64 (cN .u64 r_2 (d5 .u64 r_2 13))]) rfl (ap rfl) rfl rfl rfl aw rfl rfl rfl rfl rfl cl 0 rfl)) ?_
 refine de 178 rfl rfl ?_
 refine aq 1 ?_
 refine cn [0,1,3,0,8,24,56,127,255,511] rfl (by decide +kernel) ?_
 refine dk 1 [12] [.hp 1 0 [] 1 0 0] ?_
 refine dq [1] [] (.hp 1 0 [] 1 0 0) rfl (iL rfl rfl) ?_
 refine dq [1] [] (.int .u64 (cN .u64 r_2 (d5 .u64 r_2 13))) rfl (bm rfl rfl) ?_
 refine dk 1 [15] [.hp 1 0 [] 1 0 0] ?_
 refine dq [1] [] (.hp 1 0 [] 1 0 0) rfl (iL rfl rfl) ?_
 refine dq [1] [] (.int .u64 (cN .u64 r_2 (d5 .u64 r_2 13))) rfl (bm rfl rfl) ?_
 refine dk 2 [19,18] [.int .u64 (cN .u64 (cN .u64 r_2 (d5 .u64 r_2 13)) (gk .u64 (cN .u64 r_2 (d5 .u64 r_2 13)) 7)),.int .u64 (gk .u64 (cN .u64 r_2 (d5 .u64 r_2 13)) 7)] ?_
 refine dq [1] [] (.hp 1 0 [] 1 0 0) rfl (iL rfl rfl) ?_
 refine dz [1] [1] rfl (dl rfl rfl (ch (path:=[]) (pl:=true) (e':=.int .u64 (cN .u64 (cN .u64 r_2 (d5 .u64 r_2 13)) (gk .u64 (cN .u64 r_2 (d5 .u64 r_2 13)) 7))) (es2':=[.int .u64 (cN .u64 (cN .u64 r_2 (d5 .u64 r_2 13)) (gk .u64 (cN .u64 r_2 (d5 .u64 r_2 13)) 7))]) rfl (ap rfl) rfl rfl rfl aw rfl rfl rfl rfl rfl cl 0 rfl)) ?_
 refine de 338 rfl rfl ?_
 refine aq 1 ?_
 refine cn [0,1,3,0,8,24,56,127,255,511] rfl (by decide +kernel) ?_
 refine dk 1 [21] [.hp 1 0 [] 1 0 0] ?_
 refine dq [1] [] (.hp 1 0 [] 1 0 0) rfl (iL rfl rfl) ?_
 refine dq [1] [] (.int .u64 (cN .u64 (cN .u64 r_2 (d5 .u64 r_2 13)) (gk .u64 (cN .u64 r_2 (d5 .u64 r_2 13)) 7))) rfl (bm rfl rfl) ?_
 refine dk 1 [24] [.hp 1 0 [] 1 0 0] ?_
 refine dq [1] [] (.hp 1 0 [] 1 0 0) rfl (iL rfl rfl) ?_
 refine dq [1] [] (.int .u64 (cN .u64 (cN .u64 r_2 (d5 .u64 r_2 13)) (gk .u64 (cN .u64 r_2 (d5 .u64 r_2 13)) 7))) rfl (bm rfl rfl) ?_
 refine dk 2 [28,27] [.int .u64 (cN .u64 (cN .u64 (cN .u64 r_2 (d5 .u64 r_2 13)) (gk .u64 (cN .u64 r_2 (d5 .u64 r_2 13)) 7)) (d5 .u64 (cN .u64 (cN .u64 r_2 (d5 .u64 r_2 13)) (gk .u64 (cN .u64 r_2 (d5 .u64 r_2 13)) 7)) 17)),.int .u64 (d5 .u64 (cN .u64 (cN .u64 r_2 (d5 .u64 r_2 13)) (gk .u64 (cN .u64 r_2 (d5 .u64 r_2 13)) 7)) 17)] ?_
 refine dq [1] [] (.hp 1 0 [] 1 0 0) rfl (iL rfl rfl) ?_
 refine dz [1] [1] rfl (dl rfl rfl (ch (path:=[]) (pl:=true) (e':=.int .u64 (cN .u64 (cN .u64 (cN .u64 r_2 (d5 .u64 r_2 13)) (gk .u64 (cN .u64 r_2 (d5 .u64 r_2 13)) 7)) (d5 .u64 (cN .u64 (cN .u64 r_2 (d5 .u64 r_2 13)) (gk .u64 (cN .u64 r_2 (d5 .u64 r_2 13)) 7)) 17))) (es2':=[.int .u64 (cN .u64 (cN .u64 (cN .u64 r_2 (d5 .u64 r_2 13)) (gk .u64 (cN .u64 r_2 (d5 .u64 r_2 13)) 7)) (d5 .u64 (cN .u64 (cN .u64 r_2 (d5 .u64 r_2 13)) (gk .u64 (cN .u64 r_2 (d5 .u64 r_2 13)) 7)) 17))]) rfl (ap rfl) rfl rfl rfl aw rfl rfl rfl rfl rfl cl 0 rfl)) ?_
 refine de 498 rfl rfl ?_
 refine cq 7 [2] [.int .u64 (cN .u64 (cN .u64 (cN .u64 r_2 (d5 .u64 r_2 13)) (gk .u64 (cN .u64 r_2 (d5 .u64 r_2 13)) 7)) (d5 .u64 (cN .u64 (cN .u64 r_2 (d5 .u64 r_2 13)) (gk .u64 (cN .u64 r_2 (d5 .u64 r_2 13)) 7)) 17))] 562 ?_
 obtain rfl:=sI h
 exact bR rfl ⟨_,fin (vs:=[.int .u64 (cN .u64 (cN .u64 (cN .u64 r_2 (d5 .u64 r_2 13)) (gk .u64 (cN .u64 r_2 (d5 .u64 r_2 13)) 7)) (d5 .u64 (cN .u64 (cN .u64 r_2 (d5 .u64 r_2 13)) (gk .u64 (cN .u64 r_2 (d5 .u64 r_2 13)) 7)) 17))]) rfl (d6 (ap rfl) cX) rfl (fy rfl (Fx rfl rfl) d4),iA dX⟩
theorem Rp {G:cD}:ct G 143 A5:=gT 1 1 bP cJ Tryz.func143 (fun a r h=>UB a r h)
def Df:((List Event)×Int×Int×Unit)→List V:=cA (kM 4 aa) (cA I (cA I (oA (fun x:Unit=>(.fn 80 []:V)))))
def Dg (r:(List Event)):V×List V:=(.tup [],[.usl 4 (r.map aa)])
noncomputable def AK :=bA [true,false,false,false] Df Dg fun x=>Jm x.1 x.2.1 x.2.2.1 x.2.2.2
theorem Zl {ez:List Event}{dW:Int}{eR:Int}{fZ:Unit}{r}(h:Jm ez dW eR fZ=some r):AK.F (Df (ez,dW,eR,fZ))=some (Dg r):=aV (aY (eL ca) (aY bF (aY bF (aW (im ))))) h
noncomputable def QZ :=aQ Tryz.f119
noncomputable abbrev xA :=cL (cL (cR (cR (cR (cL (cR (cR QZ)))))))
noncomputable def vV :=cI [(142,AR),(143,A5)]
def vW (x:(List Event)×Int×Int×Unit)(r:(List Event)):St→Prop:=QF vV Tryz.f119 [true,false,false,false] (Df x) (Dg r)
theorem LQ (ez:List Event)(dW:Int)(eR:Int)(fZ:Unit)(r7:Int):cf vV 1 (vW (ez,dW,eR,fZ)) xA 0 (M7 ez dW eR fZ r7) (fun u=>(sT 67 [] [⟨0,4,u.map aa⟩] 2)) fun x8=>(sT 67 [(0,.hs 1 0 [] 4 0 (x8.2.1.map aa).length),(1,I dW),(8,I (ac (eR - dW))),(9,.hp 2 0 [] 1 0 0),(10,.int .u64 r7),(11,I x8.1)] [⟨0,4,x8.2.1.map aa⟩,⟨0,1,[.int .u64 x8.2.2]⟩] 3):=eu (LP ez dW eR fZ r7) fun {Q K} hK self ih x8 y h hr hn=>by
 unfold rz at h
 refine cq 12 [35] [B (decide (x8.1≤(ac ((ac (dW+(ac ((ac ((ac (eR - dW)).tdiv 4))*2))))+1))))] 131 ?_
 refine sq h ?_ ?_<;>intro h
 ·refine aq 1 ?_
  refine aq 4 ?_
  obtain⟨r9,hr9,h⟩:=bS h
  refine oq 147 (.int .u64 r9.1) rfl (bC rfl rfl (bW rfl rfl rfl (gm (ge rfl (qb (path:=[]) rfl rfl aw)) cS) (ZD hr9) (.inr rfl) (fi rfl rfl rfl rfl dE) rfl rfl rfl)) ?_
  refine cq 13 [12,45] [I (IntKind.i64.wrap (Gv .u64 r9.1 (IntKind.u64.wrap (r7 - 1)))),B (decide ((IntKind.i64.wrap (Gv .u64 r9.1 (IntKind.u64.wrap (r7 - 1))))≥(ac (eR - dW))))] 275 ?_
  obtain⟨u10,hu10,h⟩:=lJ h
  have j10:Run vV 1 Q (.code (cR (cR (cL (cL (cR xA)))))::.blk 1::.code (cR (cR xA))::.lp xA::.blk 0::K) (sT 67 [(0,.hs 1 0 [] 4 0 (x8.2.1.map aa).length),(1,I dW),(8,I (ac (eR - dW))),(9,.hp 2 0 [] 1 0 0),(10,.int .u64 r7),(11,I x8.1),(12,I u10)] [⟨0,4,x8.2.1.map aa⟩,⟨0,1,[.int .u64 r9.2]⟩] 3):=by
   refine cn [0,0,0,0,0,24,0,0,0,384,960,1984,0,0,12288,28672,65475,131011,262143,524287] rfl (by decide +kernel) ?_
   refine dk 10 [58,57,56,55,54,53,52,51,50,49] [I (ac (dW+u10)),I u10,I dW,.hs 1 0 [] 4 0 (x8.2.1.map aa).length,I (ac (dW+u10)),I u10,I dW,.hs 1 0 [] 4 0 (x8.2.1.map aa).length,I x8.1,.hs 1 0 [] 4 0 (x8.2.1.map aa).length] ?_
   obtain⟨e11,he11,h⟩:=bS h
   refine dq [1] [] (.hp 1 0 [] 4 (0+Int.toNat (ac (dW+u10))) 0) rfl (ah rfl rfl rfl (aL (f:=aa) (xs:=x8.2.1) rfl rfl rfl he11)) ?_
   refine dq [1] [] (aa e11) rfl (bm rfl (bZ (path:=[]) rfl rfl rfl aw (aB (f:=aa) (xs:=x8.2.1) he11) rfl rfl rfl)) ?_
   refine dk 2 [62,61] [I x8.1,.hs 1 0 [] 4 0 (x8.2.1.map aa).length] ?_
   obtain⟨e12,he12,h⟩:=bS h
   refine dq [1] [] (.hp 1 0 [] 4 (0+Int.toNat x8.1) 0) rfl (ah rfl rfl rfl (aL (f:=aa) (xs:=x8.2.1) rfl rfl rfl he12)) ?_
   refine dq [1] [] (aa e12) rfl (bm rfl (bZ (path:=[]) rfl rfl rfl aw (aB (f:=aa) (xs:=x8.2.1) he12) rfl rfl rfl)) ?_
   obtain⟨e13,he13,h⟩:=bS h
   refine dq [1] [] (.hp 1 0 [] 4 (0+Int.toNat x8.1) 0) rfl (ah rfl rfl rfl (aL (f:=aa) (xs:=x8.2.1) rfl rfl rfl he13)) ?_
   refine dz [1] [1] rfl (dl rfl rfl (ch (path:=[]) (pl:=true) (e':=aa e11) (es2':=(aK x8.2.1 x8.1 e11).map aa) rfl (ap rfl) rfl rfl rfl aw (aB (f:=aa) (xs:=x8.2.1) he13) rfl rfl rfl (eK (f:=aa) (xs:=x8.2.1) (y:=e11)) cl 0 rfl)) ?_
   try rw[←ep (f:=aa) (xs:=x8.2.1) (i:=x8.1) (z:=e11)]
   obtain⟨e16,he16,h⟩:=bS h
   refine dq [1] [] (.hp 1 0 [] 4 (0+Int.toNat (ac (dW+u10))) 0) rfl (ah rfl rfl rfl (aL (f:=aa) (xs:=(aK x8.2.1 x8.1 e11)) rfl rfl rfl he16)) ?_
   obtain⟨rw17,hrw17,h⟩:=lJ h
   refine dz [1] [1] rfl (dl rfl rfl (ch (path:=[]) (pl:=true) (e':=aa e12) (es2':=(rw17).map aa) rfl (ap rfl) rfl rfl rfl aw (aB (f:=aa) (xs:=(aK x8.2.1 x8.1 e11)) he16) rfl rfl rfl (dB (f:=aa) (xs:=(aK x8.2.1 x8.1 e11)) (y:=e12) hrw17) cl 0 rfl)) ?_
   try rw[←cu hrw17 (f:=aa) (xs:=(aK x8.2.1 x8.1 e11))]
   refine de 323 rfl rfl ?_
   refine cq 6 [11] [I (ac (x8.1+1))] 371 ?_
   refine dm ?_
   exact rf [0,1,8,9,10,11] [1,2] (ih _ _ h hr hn :)
  replace h:=hu10
  clear hu10
  refine sk h rfl rfl ?_ ?_<;>intro h
  ·refine cq 6 [12] [I (ac ((IntKind.i64.wrap (Gv .u64 r9.1 (IntKind.u64.wrap (r7 - 1)))) - (ac (eR - dW))))] 339 ?_
   subst h
   exact rf [0,1,8,9,10,11,12] [1,2] (j10 :)
  ·refine aq 1 ?_
   subst h
   exact rf [0,1,8,9,10,11,12] [1,2] (j10 :)
 ·refine aq 1 ?_
  exact rf [] [1] (hn _ (al h) :) (hk:=hK)
theorem Uk (ez:List Event)(dW:Int)(eR:Int)(fZ:Unit)(r:(List Event))(h:Jm ez dW eR fZ=some r):bN vV Tryz.f119 [true,false,false,false] 1 (Df (ez,dW,eR,fZ)) (Dg r):=by
 show Run _ _ (vW (ez,dW,eR,fZ) r) [.code QZ] _
 refine rI 67 [(0,.hs 1 0 [] 4 0 (ez.map aa).length),(1,I dW),(2,I eR),(3,.fn 80 [])] [(1,some ⟨0,4,ez.map aa⟩)] 2 ?_
 unfold Jm at h
 refine cq 12 [8,17] [I (ac (eR - dW)),B (decide ((ac (eR - dW))≥8))] 98 ?_
 obtain⟨y5,hy5,hy51,hy52⟩:=bJ h
 have j5:∀u5,y5=.inr u5→Run vV 1 (vW (ez,dW,eR,fZ) r) ([]) (sT 67 [] [⟨0,4,u5.map aa⟩] 2):=by
  intro u5 hu
  replace h:=hy52 u5 hu
  obtain⟨g6,h⟩:=gG h
  obtain rfl:=sI h
  exact yj ⟨_,fin (vs:=[]) rfl cX rfl (fy rfl (gp (f:=aa) (xs:=u5) (by simpa using g6) rfl) (bH (bH (bH d4)))),iA dX⟩
 have r5:∀r',y5=.inl r'→∀st,vW (ez,dW,eR,fZ) r' st→(vW (ez,dW,eR,fZ) r) st:=fun r' e st hq=>by rw[hy51 r' e] at hq;exact hq
 replace h:=hy5
 refine sq h ?_ ?_<;>intro h
 ·refine ck 10 [9,20] [] [130] [] [.hp 130 0 [] 1 0 0,I (ac (eR - dW))] [some ⟨0,1,[.int .u64 (IntKind.u64.wrap (ac (eR - dW)))]⟩] 178 (by kernel_rfl) ?_
  obtain⟨r7,hr7,h⟩:=bS h
  refine oq 194 (.int .u64 r7) rfl (cP (Zt hr7)) ?_
  refine cq 13 [10,11] [.int .u64 r7,I (ac ((ac (dW+(ac ((ac ((ac (eR - dW)).tdiv 4))*2)))) - 1))] 322 ?_
  obtain⟨y21,hy21,hy211,hy212⟩:=bL h
  refine bO rfl ?_
  refine rf [0,1,8,9,10,11] [1,130] (LQ ez dW eR fZ r7 rfl ((ac ((ac (dW+(ac ((ac ((ac (eR - dW)).tdiv 4))*2)))) - 1)),ez,(IntKind.u64.wrap (ac (eR - dW)))) _ hy21 (fun r' e st hq=>r5 r' (hy211 r' e) st hq) fun u21 hu=>?_)
  replace h:=hy212 u21 hu
  exact rf [] [1] (j5 _ (al h) :)
 ·refine aq 1 ?_
  exact rf [] [1] (j5 _ (al h) :)
theorem Q0 {G:cD}:ct G 119 AK:=gT 4 1 (bb Q9 (bb Rp bP)) cJ Tryz.func119 (fun a r h=>Uk a.1 a.2.1 a.2.2.1 a.2.2.2 r h)
def DA:((List Event)×Int×Int×Int×Unit)→List V:=cA (jX aa) (cA I (cA I (cA (Xc I) (oA (fun x:Unit=>(.fn 80 []:V))))))
def DB (r:Int×Int×Int):V×List V:=(.tup [I r.1,I r.2.1],[.uptr (I r.2.2)])
noncomputable def AV :=bA [false,false,false,true,false] DA DB fun x=>AU x.1 x.2.1 x.2.2.1 x.2.2.2.1 x.2.2.2.2
theorem Ju {dw:List Event}{eZ:Int}{fa:Int}{i9:Int}{qT:Unit}{r}(h:AU dw eZ fa i9 qT=some r):AV.F (DA (dw,eZ,fa,i9,qT))=some (DB r):=aV (aY (ek ca) (aY bF (aY bF (aY (vl bF) (aW (im )))))) h
noncomputable def Zx :=aQ Tryz.f153
noncomputable def Ra :=cI [(80,lZ)]
def Zw (x:(List Event)×Int×Int×Int×Unit)(r:Int×Int×Int):St→Prop:=QF Ra Tryz.f153 [false,false,false,true,false] (DA x) (DB r)
theorem Ut (dw:List Event)(eZ:Int)(fa:Int)(i9:Int)(qT:Unit)(r:Int×Int×Int)(h:AU dw eZ fa i9 qT=some r):bN Ra Tryz.f153 [false,false,false,true,false] 1 (DA (dw,eZ,fa,i9,qT)) (DB r):=by
 show Run _ _ (Zw (dw,eZ,fa,i9,qT) r) [.code Zx] _
 refine rI 32 [(0,.isl false (dw.map aa)),(1,I eZ),(2,I fa),(3,.hp 1 0 [] 1 0 0),(4,.fn 80 [])] [(1,some ⟨0,1,[I i9]⟩)] 2 ?_
 unfold AU at h
 refine cq 7 [] [] 34 ?_
 refine cn [0,0,0,6,14,0,0,96,224,511,1023] rfl (by decide +kernel) ?_
 refine dk 3 [14,13,12] [I fa,.isl false (dw.map aa),.fn 80 []] ?_
 obtain⟨e6,he6,h⟩:=bS h
 refine dq [] [] (.iptr (aa e6) 0) rfl (ah rfl rfl rfl (cp rfl rfl rfl rfl he6)) ?_
 refine dq [] [] (aa e6) rfl (bm rfl rfl) ?_
 refine dk 2 [18,17] [I eZ,.isl false (dw.map aa)] ?_
 obtain⟨e7,he7,h⟩:=bS h
 refine dq [] [] (.iptr (aa e7) 0) rfl (ah rfl rfl rfl (cp rfl rfl rfl rfl he7)) ?_
 refine dq [] [] (aa e7) rfl (bm rfl rfl) ?_
 obtain⟨r8,hr8,h⟩:=bS h
 refine dq [] [] (I r8) rfl (cP (fF hr8)) ?_ (dK rfl rfl rfl rfl (ba (bl rfl) (ba (bl rfl) cS)) (fF hr8) (.inr rfl) rfl)
 refine dk 1 [22] [B (decide (r8<0))] ?_
 refine de 210 rfl rfl ?_
 refine sq h ?_ ?_<;>intro h
 ·refine ck 16 [10,11] [] [1] [] [I fa,I eZ] [some ⟨0,1,[I (ac (i9+1))]⟩] 370 (by kernel_rfl) ?_
  obtain rfl:=sI h
  exact bR rfl ⟨_,fin (vs:=[I fa,I eZ]) rfl (d6 (ap rfl) (d6 (ap rfl) cX)) rfl (bH (bH (bH (fy rfl (Fx rfl rfl) (bH d4))))),iA dX⟩
 ·refine aq 1 ?_
  refine cq 7 [10,11] [I eZ,I fa] 274 ?_
  obtain rfl:=sI h
  exact bR rfl ⟨_,fin (vs:=[I eZ,I fa]) rfl (d6 (ap rfl) (d6 (ap rfl) cX)) rfl (bH (bH (bH (fy rfl (Fx rfl rfl) (bH d4))))),iA dX⟩
theorem Rb {G:cD}:ct G 153 AV:=gT 5 1 (bb mN bP) cJ Tryz.func153 (fun a r h=>Ut a.1 a.2.1 a.2.2.1 a.2.2.2.1 a.2.2.2.2 r h)
def Dw:((List Event)×Int×Int×Int×Int×Unit)→List V:=cA (jX aa) (cA I (cA I (cA I (cA (Xc I) (oA (fun x:Unit=>(.fn 80 []:V)))))))
def Dx (r:Int×Int):V×List V:=(I r.1,[.uptr (I r.2)])
noncomputable def uz :=bA [false,false,false,false,true,false] Dw Dx fun x=>F0 x.1 x.2.1 x.2.2.1 x.2.2.2.1 x.2.2.2.2.1 x.2.2.2.2.2
theorem Q7 {ji:List Event}{a_8:Int}{b_9:Int}{sE:Int}{kn:Int}{dx:Unit}{r}(h:F0 ji a_8 b_9 sE kn dx=some r):uz.F (Dw (ji,a_8,b_9,sE,kn,dx))=some (Dx r):=aV (aY (ek ca) (aY bF (aY bF (aY bF (aY (vl bF) (aW (im ))))))) h
noncomputable def Zs :=aQ Tryz.f145
noncomputable def Q6 :=cI [(153,AV)]
def Zr (x:(List Event)×Int×Int×Int×Int×Unit)(r:Int×Int):St→Prop:=QF Q6 Tryz.f145 [false,false,false,false,true,false] (Dw x) (Dx r)
theorem Ur (ji:List Event)(a_8:Int)(b_9:Int)(sE:Int)(kn:Int)(dx:Unit)(r:Int×Int)(h:F0 ji a_8 b_9 sE kn dx=some r):bN Q6 Tryz.f145 [false,false,false,false,true,false] 1 (Dw (ji,a_8,b_9,sE,kn,dx)) (Dx r):=by
 show Run _ _ (Zr (ji,a_8,b_9,sE,kn,dx) r) [.code Zs] _
 refine rI 41 [(0,.isl false (ji.map aa)),(1,I a_8),(2,I b_9),(3,I sE),(4,.hp 1 0 [] 1 0 0),(5,.fn 80 [])] [(1,some ⟨0,1,[I kn]⟩)] 2 ?_
 unfold F0 at h
 refine cq 11 [14,15,16,17,18] [.isl false (ji.map aa),I a_8,I b_9,.hp 1 0 [] 1 0 0,.fn 80 []] 98 ?_
 obtain⟨r7,hr7,h⟩:=bS h
 refine oq 114 (.tup [I r7.1,I r7.2.1]) rfl (bC rfl rfl (bW rfl rfl rfl (ba (bl rfl) (ba (bl rfl) (ba (bl rfl) (gm (ge rfl (qb (path:=[]) rfl rfl aw)) (ba (bl rfl) cS))))) (Ju hr7) (.inr rfl) (fi rfl rfl rfl rfl dE) rfl rfl rfl)) ?_
 refine ck 13 [1,23,24,25,26,27] [2] [] [] [I r7.1,.isl false (ji.map aa),I r7.2.1,I sE,.hp 1 0 [] 1 0 0,.fn 80 []] [] 274 (by kernel_rfl) ?_
 obtain⟨r8,hr8,h⟩:=bS h
 refine oq 290 (.tup [I r8.1,I r8.2.1]) rfl (bC rfl rfl (bW rfl rfl rfl (ba (bl rfl) (ba (bl rfl) (ba (bl rfl) (gm (ge rfl (qb (path:=[]) rfl rfl aw)) (ba (bl rfl) cS))))) (Ju hr8) (.inr rfl) (fi rfl rfl rfl rfl dE) rfl rfl rfl)) ?_
 refine ck 13 [32,33,34,35,36] [3] [] [] [.isl false (ji.map aa),I r7.1,I r8.1,.hp 1 0 [] 1 0 0,.fn 80 []] [] 450 (by kernel_rfl) ?_
 obtain⟨r9,hr9,h⟩:=bS h
 refine oq 466 (.tup [I r9.1,I r9.2.1]) rfl (bC rfl rfl (bW rfl rfl rfl (ba (bl rfl) (ba (bl rfl) (ba (bl rfl) (gm (ge rfl (qb (path:=[]) rfl rfl aw)) (ba (bl rfl) cS))))) (Ju hr9) (.inr rfl) (fi rfl rfl rfl rfl dE) rfl rfl rfl)) ?_
 refine ck 11 [12] [1] [] [] [I r9.2.1] [] 578 (by kernel_rfl) ?_
 obtain rfl:=sI h
 exact bR rfl ⟨_,fin (vs:=[I r9.2.1]) rfl (d6 (ap rfl) cX) rfl (bH (bH (bH (bH (fy rfl (Fx rfl rfl) (bH d4)))))),iA dX⟩
theorem GX {G:cD}:ct G 145 uz:=gT 6 1 (bb Rb bP) cJ Tryz.func145 (fun a r h=>Ur a.1 a.2.1 a.2.2.1 a.2.2.2.1 a.2.2.2.2.1 a.2.2.2.2.2 r h)
def Du:((List Event)×Int×Int×Unit)→List V:=cA (jX aa) (cA I (cA (Xc I) (oA (fun x:Unit=>(.fn 80 []:V)))))
def Dv (r:Int×Int):V×List V:=(I r.1,[.uptr (I r.2)])
noncomputable def AQ :=bA [false,false,true,false] Du Dv fun x=>AP x.1 x.2.1 x.2.2.1 x.2.2.2
theorem Js {mw:List Event}{a_6:Int}{ml:Int}{uM:Unit}{r}(h:AP mw a_6 ml uM=some r):AQ.F (Du (mw,a_6,ml,uM))=some (Dv r):=aV (aY (ek ca) (aY bF (aY (vl bF) (aW (im ))))) h
noncomputable def Zq :=aQ Tryz.f144
noncomputable def Q4 :=cI [(145,uz)]
def Zp (x:(List Event)×Int×Int×Unit)(r:Int×Int):St→Prop:=QF Q4 Tryz.f144 [false,false,true,false] (Du x) (Dv r)
theorem Uq (mw:List Event)(a_6:Int)(ml:Int)(uM:Unit)(r:Int×Int)(h:AP mw a_6 ml uM=some r):bN Q4 Tryz.f144 [false,false,true,false] 1 (Du (mw,a_6,ml,uM)) (Dv r):=by
 show Run _ _ (Zp (mw,a_6,ml,uM) r) [.code Zq] _
 refine rI 18 [(0,.isl false (mw.map aa)),(1,I a_6),(2,.hp 1 0 [] 1 0 0),(3,.fn 80 [])] [(1,some ⟨0,1,[I ml]⟩)] 2 ?_
 unfold AP at h
 refine cq 14 [9,11,12,14,15,16] [.isl false (mw.map aa),I (ac (a_6 - 1)),I a_6,I (ac (a_6+1)),.hp 1 0 [] 1 0 0,.fn 80 []] 146 ?_
 obtain⟨r5,hr5,h⟩:=bS h
 refine oq 162 (I r5.1) rfl (bC rfl rfl (bW rfl rfl rfl (ba (bl rfl) (ba (bl rfl) (ba (bl rfl) (ba (bl rfl) (gm (ge rfl (qb (path:=[]) rfl rfl aw)) (ba (bl rfl) cS)))))) (Q7 hr5) (.inr rfl) (fi rfl rfl rfl rfl dE) rfl rfl rfl)) ?_
 refine cq 2 [8] [I r5.1] 178 ?_
 obtain rfl:=sI h
 exact bR rfl ⟨_,fin (vs:=[I r5.1]) rfl (d6 (ap rfl) cX) rfl (bH (bH (fy rfl (Fx rfl rfl) (bH d4)))),iA dX⟩
theorem Q5 {G:cD}:ct G 144 AQ:=gT 4 1 (bb GX bP) cJ Tryz.func144 (fun a r h=>Uq a.1 a.2.1 a.2.2.1 a.2.2.2 r h)
def Dh:((List Event)×Int×Int×Unit)→List V:=cA (jX aa) (cA I (cA I (oA (fun x:Unit=>(.fn 80 []:V)))))
def Dj (r:Int×Int):V×List V:=(.tup [I r.1,I r.2],[])
noncomputable def AL :=bA [false,false,false,false] Dh Dj fun x=>Jn x.1 x.2.1 x.2.2.1 x.2.2.2
theorem Zm {fG:List Event}{a_2:Int}{b_3:Int}{l6:Unit}{r}(h:Jn fG a_2 b_3 l6=some r):AL.F (Dh (fG,a_2,b_3,l6))=some (Dj r):=aV (aY (ek ca) (aY bF (aY bF (aW (im ))))) h
noncomputable def Dk :=aQ Tryz.f120
noncomputable def Di :=cI [(145,uz),(144,AQ)]
def qC (x:(List Event)×Int×Int×Unit)(r:Int×Int):St→Prop:=QF Di Tryz.f120 [false,false,false,false] (Dh x) (Dj r)
theorem Ul (fG:List Event)(a_2:Int)(b_3:Int)(l6:Unit)(r:Int×Int)(h:Jn fG a_2 b_3 l6=some r):bN Di Tryz.f120 [false,false,false,false] 0 (Dh (fG,a_2,b_3,l6)) (Dj r):=by
 show Run _ _ (qC (fG,a_2,b_3,l6) r) [.code Dk] _
 refine rI 63 [(0,.isl false (fG.map aa)),(1,I a_2),(2,I b_3),(3,.fn 80 [])] [] 1 ?_
 unfold Jn at h
 refine ck 49 [10,11,12,13,14,34] [] [97] [] [I (ac (b_3 - a_2)),.hp 97 0 [] 1 0 0,I (ac (a_2+(ac ((ac ((ac (b_3 - a_2)).tdiv 4))*1)))),I (ac (a_2+(ac ((ac ((ac (b_3 - a_2)).tdiv 4))*2)))),I (ac (a_2+(ac ((ac ((ac (b_3 - a_2)).tdiv 4))*3)))),B (decide ((ac (b_3 - a_2))≥8))] [some ⟨0,1,[I (0)]⟩] 433 (by kernel_rfl) ?_
 obtain⟨y5,hy5,hy51,hy52⟩:=bJ h
 have j5:∀u5,y5=.inr u5→Run Di 0 (qC (fG,a_2,b_3,l6) r) (.code (cR (cR (cR (cR (cR (cR (cR Dk)))))))::[]) (sT 63 [(11,.hp 1 0 [] 1 0 0),(13,I u5.1)] [⟨0,1,[I u5.2]⟩] 2):=by
  intro u5 hu
  replace h:=hy52 u5 hu
  refine cq 10 [55,57] [I u5.2,B (u5.2==0)] 50 ?_
  refine sq h ?_ ?_<;>intro h
  ·refine cq 6 [8,9] [I u5.1,I (1)] 98 ?_
   obtain rfl:=sI h
   exact rP [I u5.1,I (1)]
  ·refine cq 5 [60] [B (u5.2==12)] 82 ?_
   refine sq h ?_ ?_<;>intro h
   ·refine cq 6 [8,9] [I u5.1,I (2)] 130 ?_
    obtain rfl:=sI h
    exact rP [I u5.1,I (2)]
   ·refine cq 6 [8,9] [I u5.1,I (0)] 130 ?_
    obtain rfl:=sI h
    exact rP [I u5.1,I (0)]
 have r5:∀r',y5=.inl r'→∀st,qC (fG,a_2,b_3,l6) r' st→(qC (fG,a_2,b_3,l6) r) st:=fun r' e st hq=>by rw[hy51 r' e] at hq;exact hq
 replace h:=hy5
 refine sq h ?_ ?_<;>intro h
 ·refine cq 6 [36] [B (decide ((ac (b_3 - a_2))≥50))] 465 ?_
  obtain⟨y6,hy6,hy61,hy62⟩:=bL h
  have j6:∀u6,y6=.inr u6→Run Di 0 (qC (fG,a_2,b_3,l6) r) (.code (cR (cL (cR (cL (cR (cR (cR (cR (cR (cR Dk))))))))))::.code (cR (cR (cR (cR (cR (cR (cR Dk)))))))::[]) (sT 63 [(0,.isl false (fG.map aa)),(3,.fn 80 []),(11,.hp 1 0 [] 1 0 0),(12,I u6.1),(13,I u6.2.1),(14,I u6.2.2.1)] [⟨0,1,[I u6.2.2.2]⟩] 2):=by
   intro u6 hu
   replace h:=hy62 u6 hu
   refine cq 6 [49,50,51,52,53] [.isl false (fG.map aa),I u6.1,I u6.2.1,I u6.2.2.1,.fn 80 []] 82 ?_
   obtain⟨r7,hr7,h⟩:=bS h
   refine oq 98 (I r7.1) rfl (bC rfl rfl (bW rfl rfl rfl (ba (bl rfl) (ba (bl rfl) (ba (bl rfl) (ba (bl rfl) (gm (ge rfl (qb (path:=[]) rfl rfl aw)) (ba (bl rfl) cS)))))) (Q7 hr7) (.inr rfl) (fi rfl rfl rfl rfl dE) rfl rfl rfl)) ?_
   refine cq 2 [13] [I r7.1] 114 ?_
   exact rf [11,13] [1] (j5 _ (al h) :)
  have r6:∀r',y6=.inl r'→∀st,qC (fG,a_2,b_3,l6) r' st→(qC (fG,a_2,b_3,l6) r) st:=fun r' e st hq=>r5 r' (hy61 r' e) st hq
  replace h:=hy6
  refine sq h ?_ ?_<;>intro h
  ·refine cq 5 [37,38,39] [.isl false (fG.map aa),I (ac (a_2+(ac ((ac ((ac (b_3 - a_2)).tdiv 4))*1)))),.fn 80 []] 513 ?_
   obtain⟨r8,hr8,h⟩:=bS h
   refine oq 529 (I r8.1) rfl (bC rfl rfl (bW rfl rfl rfl (ba (bl rfl) (ba (bl rfl) (gm (ge rfl (qb (path:=[]) rfl rfl aw)) (ba (bl rfl) cS)))) (Js hr8) (.inr rfl) (fi rfl rfl rfl rfl dE) rfl rfl rfl)) ?_
   refine cq 7 [12,41,42,43] [I r8.1,.isl false (fG.map aa),I (ac (a_2+(ac ((ac ((ac (b_3 - a_2)).tdiv 4))*2)))),.fn 80 []] 593 ?_
   obtain⟨r9,hr9,h⟩:=bS h
   refine oq 609 (I r9.1) rfl (bC rfl rfl (bW rfl rfl rfl (ba (bl rfl) (ba (bl rfl) (gm (ge rfl (qb (path:=[]) rfl rfl aw)) (ba (bl rfl) cS)))) (Js hr9) (.inr rfl) (fi rfl rfl rfl rfl dE) rfl rfl rfl)) ?_
   refine cq 6 [13,45,46,47] [I r9.1,.isl false (fG.map aa),I (ac (a_2+(ac ((ac ((ac (b_3 - a_2)).tdiv 4))*3)))),.fn 80 []] 673 ?_
   obtain⟨r10,hr10,h⟩:=bS h
   refine oq 689 (I r10.1) rfl (bC rfl rfl (bW rfl rfl rfl (ba (bl rfl) (ba (bl rfl) (gm (ge rfl (qb (path:=[]) rfl rfl aw)) (ba (bl rfl) cS)))) (Js hr10) (.inr rfl) (fi rfl rfl rfl rfl dE) rfl rfl rfl)) ?_
   refine cq 2 [14] [I r10.1] 705 ?_
   exact rf [0,3,11,12,13,14] [97] (j6 _ (al h) :)
  ·refine aq 1 ?_
   exact rf [0,3,11,12,13,14] [97] (j6 _ (al h) :)
 ·refine aq 1 ?_
  exact rf [11,13] [97] (j5 _ (al h) :)
theorem Q1 {G:cD}:ct G 120 AL:=gT 4 0 (bb GX (bb Q5 bP)) cJ Tryz.func120 (fun a r h=>Ul a.1 a.2.1 a.2.2.1 a.2.2.2 r h)
def DK:((List Event)×Int×Int×Unit)→List V:=cA (kM 4 aa) (cA I (cA I (oA (fun x:Unit=>(.fn 80 []:V)))))
def DL (r:(List Event)):V×List V:=(.tup [],[.usl 4 (r.map aa)])
noncomputable def A3 :=bA [true,false,false,false] DK DL fun x=>Jz x.1 x.2.1 x.2.2.1 x.2.2.2
theorem ZC {dw:List Event}{eZ:Int}{fa:Int}{aH:Unit}{r}(h:Jz dw eZ fa aH=some r):A3.F (DK (dw,eZ,fa,aH))=some (DL r):=aV (aY (eL ca) (aY bF (aY bF (aW (im ))))) h
noncomputable def Rk :=aQ Tryz.f121
noncomputable def JA :=cI []
def Rj (x:(List Event)×Int×Int×Unit)(r:(List Event)):St→Prop:=QF JA Tryz.f121 [true,false,false,false] (DK x) (DL r)
theorem Mo (dw:List Event)(eZ:Int)(fa:Int)(aH:Unit):cf JA 1 (Rj (dw,eZ,fa,aH)) (cL (cL (cR (cR Rk)))) 0 (No dw eZ fa aH) (fun u=>(sT 34 [] [⟨0,4,u.map aa⟩] 2)) fun x5=>(sT 34 [(0,.hs 1 0 [] 4 0 (x5.2.2.map aa).length),(8,I x5.1),(9,I x5.2.1)] [⟨0,4,x5.2.2.map aa⟩] 2):=eu (Mn dw eZ fa aH) fun {Q K} hK self ih x5 y h hr hn=>by
 unfold rQ at h
 refine cq 7 [15] [B (decide (x5.1<x5.2.1))] 50 ?_
 refine sq h ?_ ?_<;>intro h
 ·refine aq 1 ?_
  refine aq 2 ?_
  refine cn [0,0,0,0,0,0,48,112,0,0,768,1792,4083,8179,16383,32767] rfl (by decide +kernel) ?_
  refine dk 6 [21,20,19,18,17,16] [I x5.2.1,.hs 1 0 [] 4 0 (x5.2.2.map aa).length,I x5.2.1,.hs 1 0 [] 4 0 (x5.2.2.map aa).length,I x5.1,.hs 1 0 [] 4 0 (x5.2.2.map aa).length] ?_
  obtain⟨e6,he6,h⟩:=bS h
  refine dq [1] [] (.hp 1 0 [] 4 (0+Int.toNat x5.2.1) 0) rfl (ah rfl rfl rfl (aL (f:=aa) (xs:=x5.2.2) rfl rfl rfl he6)) ?_
  refine dq [1] [] (aa e6) rfl (bm rfl (bZ (path:=[]) rfl rfl rfl aw (aB (f:=aa) (xs:=x5.2.2) he6) rfl rfl rfl)) ?_
  refine dk 2 [25,24] [I x5.1,.hs 1 0 [] 4 0 (x5.2.2.map aa).length] ?_
  obtain⟨e7,he7,h⟩:=bS h
  refine dq [1] [] (.hp 1 0 [] 4 (0+Int.toNat x5.1) 0) rfl (ah rfl rfl rfl (aL (f:=aa) (xs:=x5.2.2) rfl rfl rfl he7)) ?_
  refine dq [1] [] (aa e7) rfl (bm rfl (bZ (path:=[]) rfl rfl rfl aw (aB (f:=aa) (xs:=x5.2.2) he7) rfl rfl rfl)) ?_
  obtain⟨e8,he8,h⟩:=bS h
  refine dq [1] [] (.hp 1 0 [] 4 (0+Int.toNat x5.1) 0) rfl (ah rfl rfl rfl (aL (f:=aa) (xs:=x5.2.2) rfl rfl rfl he8)) ?_
  refine dz [1] [1] rfl (dl rfl rfl (ch (path:=[]) (pl:=true) (e':=aa e6) (es2':=(aK x5.2.2 x5.1 e6).map aa) rfl (ap rfl) rfl rfl rfl aw (aB (f:=aa) (xs:=x5.2.2) he8) rfl rfl rfl (eK (f:=aa) (xs:=x5.2.2) (y:=e6)) cl 0 rfl)) ?_
  try rw[←ep (f:=aa) (xs:=x5.2.2) (i:=x5.1) (z:=e6)]
  obtain⟨e11,he11,h⟩:=bS h
  refine dq [1] [] (.hp 1 0 [] 4 (0+Int.toNat x5.2.1) 0) rfl (ah rfl rfl rfl (aL (f:=aa) (xs:=(aK x5.2.2 x5.1 e6)) rfl rfl rfl he11)) ?_
  obtain⟨rw12,hrw12,h⟩:=lJ h
  refine dz [1] [1] rfl (dl rfl rfl (ch (path:=[]) (pl:=true) (e':=aa e7) (es2':=(rw12).map aa) rfl (ap rfl) rfl rfl rfl aw (aB (f:=aa) (xs:=(aK x5.2.2 x5.1 e6)) he11) rfl rfl rfl (dB (f:=aa) (xs:=(aK x5.2.2 x5.1 e6)) (y:=e7) hrw12) cl 0 rfl)) ?_
  try rw[←cu hrw12 (f:=aa) (xs:=(aK x5.2.2 x5.1 e6))]
  refine de 306 rfl rfl ?_
  refine cq 12 [8,9] [I (ac (x5.1+1)),I (ac (x5.2.1 - 1))] 402 ?_
  refine dm ?_
  exact rf [0,8,9] [1] (ih _ _ h hr hn :)
 ·refine aq 1 ?_
  exact rf [] [1] (hn _ (al h) :) (hk:=hK)
theorem Uz (dw:List Event)(eZ:Int)(fa:Int)(aH:Unit)(r:(List Event))(h:Jz dw eZ fa aH=some r):bN JA Tryz.f121 [true,false,false,false] 1 (DK (dw,eZ,fa,aH)) (DL r):=by
 show Run _ _ (Rj (dw,eZ,fa,aH) r) [.code Rk] _
 refine rI 34 [(0,.hs 1 0 [] 4 0 (dw.map aa).length),(1,I eZ),(2,I fa),(3,.fn 80 [])] [(1,some ⟨0,4,dw.map aa⟩)] 2 ?_
 unfold Jz at h
 refine cq 12 [8,9] [I eZ,I (ac (fa - 1))] 82 ?_
 obtain⟨y16,hy16,hy161,hy162⟩:=bJ h
 refine bO rfl ?_
 refine rf [0,8,9] [1] (Mo dw eZ fa aH rfl (eZ,(ac (fa - 1)),dw) _ hy16 (fun r' e st hq=>by rw[hy161 r' e] at hq;exact hq) fun u16 hu=>?_)
 replace h:=hy162 u16 hu
 obtain⟨g17,h⟩:=gG h
 obtain rfl:=sI h
 exact yj ⟨_,fin (vs:=[]) rfl cX rfl (fy rfl (gp (f:=aa) (xs:=u16) (by simpa using g17) rfl) (bH (bH (bH d4)))),iA dX⟩
theorem Rl {G:cD}:ct G 121 A3:=gT 4 1 bP cJ Tryz.func121 (fun a r h=>Uz a.1 a.2.1 a.2.2.1 a.2.2.2 r h)
def DC:((List Event)×Int×Int×Unit)→List V:=cA (kM 4 aa) (cA I (cA I (oA (fun x:Unit=>(.fn 80 []:V)))))
def DD (r:Bool×(List Event)):V×List V:=(B r.1,[.usl 4 (r.2.map aa)])
noncomputable def AW :=bA [true,false,false,false] DC DD fun x=>Jv x.1 x.2.1 x.2.2.1 x.2.2.2
theorem Zy {aJ:List Event}{bE:Int}{bK:Int}{aZ:Unit}{r}(h:Jv aJ bE bK aZ=some r):AW.F (DC (aJ,bE,bK,aZ))=some (DD r):=aV (aY (eL ca) (aY bF (aY bF (aW (im ))))) h
noncomputable def Rc :=aQ Tryz.f122
noncomputable abbrev lV :=cL (cL (cR (cL (cR (cR Rc)))))
noncomputable abbrev xC :=cL (cL (cL (cL (cL (cR lV)))))
noncomputable abbrev Xl :=cL (cL (cR (cL (cR (cR (cR (cR (cR (cR (cL (cL (cR lV))))))))))))
noncomputable abbrev Xm :=cL (cL (cR (cL (cR (cL (cR (cR (cR (cR (cL (cL (cR lV))))))))))))
noncomputable def nG :=cI [(80,lZ)]
def px (x:(List Event)×Int×Int×Unit)(r:Bool×(List Event)):St→Prop:=QF nG Tryz.f122 [true,false,false,false] (DC x) (DD r)
theorem L0 (aJ:List Event)(bE:Int)(bK:Int)(aZ:Unit)(x5:Int×Int×Int×Int×(List Event)):cf nG 1 (px (aJ,bE,bK,aZ)) xC 2 (Nb aJ bE bK aZ x5) (fun u=>(sT 141 [(0,.hs 1 0 [] 4 0 (x5.2.2.2.2.map aa).length),(1,I x5.1),(2,I x5.2.1),(3,.fn 80 []),(9,I u),(10,I x5.2.2.2.1)] [⟨0,4,x5.2.2.2.2.map aa⟩] 2)) fun x6=>(sT 141 [(0,.hs 1 0 [] 4 0 (x5.2.2.2.2.map aa).length),(1,I x5.1),(2,I x5.2.1),(3,.fn 80 []),(9,I x6),(10,I x5.2.2.2.1)] [⟨0,4,x5.2.2.2.2.map aa⟩] 2):=eu (LZ aJ bE bK aZ x5) fun {Q K} hK self ih x6 y h hr hn=>by
 unfold rD at h
 refine aq 2 ?_
 refine cn [0,0,3,7,15,15,15,111,239,15,15,1039,3599,7695,16383,32767,65535,131071] rfl (by decide +kernel) ?_
 refine dk 4 [22,21,20,19] [B (decide (x6<x5.2.1)),B (decide (x6<x5.2.1)),I x5.2.1,I x6] ?_
 obtain⟨y7,hy7,hy71,hy72⟩:=bL h
 have j7:∀u7,y7=.inr u7→Run nG 1 Q (.code (cR (cL xC))::.code (cR xC)::.lp xC::.blk 2::K) (sT 141 [(0,.hs 1 0 [] 4 0 (x5.2.2.2.2.map aa).length),(1,I x5.1),(2,I x5.2.1),(3,.fn 80 []),(9,I x6),(10,I x5.2.2.2.1),(36,B u7)] [⟨0,4,x5.2.2.2.2.map aa⟩] 2):=by
  intro u7 hu
  replace h:=hy72 u7 hu
  refine sq h ?_ ?_<;>intro h
  ·refine aq 1 ?_
   refine cq 7 [9] [I (ac (x6+1))] 50 ?_
   refine dm ?_
   exact rf [0,1,2,3,9,10] [1] (ih _ _ h hr hn :)
  ·refine aq 1 ?_
   exact rf [0,1,2,3,9,10] [1] (hn _ (al h) :) (hk:=hK)
 have r7:∀r',y7=.inl r'→∀st,px (aJ,bE,bK,aZ) r' st→Q st:=fun r' e st hq=>hr r' (hy71 r' e) st hq
 replace h:=hy7
 refine sp 22 h rfl ?_ ?_<;>intro h
 ·refine dk 3 [25,24,23] [I x6,.hs 1 0 [] 4 0 (x5.2.2.2.2.map aa).length,.fn 80 []] ?_
  obtain⟨e8,he8,h⟩:=bS h
  refine dy [1] [] (.hp 1 0 [] 4 (0+Int.toNat x6) 0) rfl (ah rfl rfl rfl (aL (f:=aa) (xs:=x5.2.2.2.2) rfl rfl rfl he8)) ?_
  refine dy [1] [] (aa e8) rfl (bm rfl (bZ (path:=[]) rfl rfl rfl aw (aB (f:=aa) (xs:=x5.2.2.2.2) he8) rfl rfl rfl)) ?_
  refine dk 3 [30,29,28] [I (ac (x6 - 1)),I x6,.hs 1 0 [] 4 0 (x5.2.2.2.2.map aa).length] ?_
  obtain⟨e9,he9,h⟩:=bS h
  refine dy [1] [] (.hp 1 0 [] 4 (0+Int.toNat (ac (x6 - 1))) 0) rfl (ah rfl rfl rfl (aL (f:=aa) (xs:=x5.2.2.2.2) rfl rfl rfl he9)) ?_
  refine dy [1] [] (aa e9) rfl (bm rfl (bZ (path:=[]) rfl rfl rfl aw (aB (f:=aa) (xs:=x5.2.2.2.2) he9) rfl rfl rfl)) ?_
  obtain⟨r10,hr10,h⟩:=bS h
  refine dy [] [] (I r10) rfl (cP (fF hr10)) ?_ (dK rfl rfl rfl rfl (ba (bl rfl) (ba (bl rfl) cS)) (fF hr10) (.inr rfl) rfl)
  refine dk 3 [36,35,34] [B (!(decide (r10<0))),B (!(decide (r10<0))),B (decide (r10<0))] ?_
  refine de 290 rfl rfl ?_
  exact rf [0,1,2,3,9,10,36] [1] (j7 _ (al h) :)
 ·refine dk 14 [36,35,34,33,32,31,30,29,28,27,26,25,24,23] [B false,.und,.und,.und,.und,.und,.und,.und,.und,.und,.und,.und,.und,.und] ?_
  refine de 290 rfl rfl ?_
  exact rf [0,1,2,3,9,10,36] [1] (j7 _ (al h) :)
end Go.Ln
