/-
  Each function of the program computes its plain function.
-/
import Derived.Test.YtobhcnmeflacnaaGreatDoorFnExactIsValidStateFun
import Derived.Test.YtobhcnmeflacnaaGreatDoorChecked
set_option maxHeartbeats 4000000
set_option linter.unusedVariables false
set_option linter.unusedSimpArgs false
set_option maxRecDepth 100000
namespace Go.Ln
open Go Go.Proofs
def BI:((List ae)×Int)→List V:=cA (ew str) (oA I)
def zw (r:Int):V×List V:=(I r,[])
noncomputable def rz:Ent:=aR [false,false] BI zw fun x=>tH x.1 x.2
theorem NJ {a_1:List ae}{left_2:Int}{r}(h:tH a_1 left_2=some r):rz.F (BI (a_1,left_2))=some (zw r):=aC (aY (bz bm) (aB bO)) h
noncomputable def N8:Code:=az Tryz.f57
noncomputable def Gd:Env:=bF Tryz.prog []
def Ps (x:(List ae)×Int)(r:Int):St→Prop:=QF Gd Tryz.f57 [false,false] (BI x) (zw r)
theorem I6 (a_1:List ae)(left_2:Int):cd Gd 0 (Ps (a_1,left_2)) (cL (cL (cR (cL (cR (cR (cR N8))))))) 0 (ql a_1 left_2) (fun u=>(sT 28 [(1,I u)] [] 1)) fun x3=>(sT 28 [(0,.isl false (a_1.map str)),(1,I x3.1),(5,I x3.2)] [] 1):=dT (vS a_1 left_2) fun {Q K} hK self ih x3 y h hr hn=>by
 unfold kQ at h
 refine cq 5 [12,13] [I x3.2,.isl false (a_1.map str)] 33 ?_
 refine oq 49 (I (len a_1)) rfl (aX rfl rfl rfl (bc rfl)) ?_
 refine cq 2 [15] [B (decide (x3.2<(len a_1)))] 65 ?_
 refine sq h (fun h=>?_) fun h=>?_
 ·refine aq 1 ?_
  refine cq 7 [18,19,20] [I x3.1,.isl false (a_1.map str),I x3.2] 113 ?_
  obtain⟨e4,he4,h⟩:=bS h
  refine oq 129 (.iptr (str e4) 0) rfl (ap rfl rfl rfl (aQ rfl rfl rfl rfl he4)) ?_
  refine cq 10 [1,26] [I (ar (x3.1 - (len e4))),B (decide ((ar (x3.1 - (len e4)))<0))] 225 ?_
  refine sq h (fun h=>?_) fun h=>?_
  ·refine cq 4 [4] [I (-1)] 241 ?_
   exact aj rfl (hr _ (Option.some.inj h).symm _ (qp [I (-1)]))
  ·refine aq 1 ?_
   refine cq 6 [5] [I (ar (x3.2+1))] 273 ?_
   refine cG ?_
   exact rf [0,1,5] [] (ih _ _ h hr hn :)
 ·refine aq 1 ?_
  exact rf [1] [] (hn _ (Option.some.inj h).symm :) (hk:=hK)
theorem QP (a_1:List ae)(left_2:Int)(r:Int)(h:tH a_1 left_2=some r):be Gd Tryz.f57 [false,false] 0 (BI (a_1,left_2)) (zw r):=by
 show Run _ _ (Ps (a_1,left_2) r) [.code N8] _
 refine rI 28 [(0,.isl false (a_1.map str)),(1,I left_2)] [] 1 ?_
 unfold tH at h
 refine cq 8 [6,7] [I left_2,.isl false (a_1.map str)] 49 ?_
 refine oq 65 (I (len a_1)) rfl (aX rfl rfl rfl (bc rfl)) ?_
 refine cq 9 [1,11] [I (ar (left_2 - (len a_1))),B (decide ((ar (left_2 - (len a_1)))<0))] 129 ?_
 refine sq h (fun h=>?_) fun h=>?_
 ·refine cq 4 [4] [I (-1)] 145 ?_
  obtain rfl:=Option.some.inj h
  exact aj rfl (qp [I (-1)])
 ·refine aq 1 ?_
  refine cq 6 [5] [I (0)] 145 ?_
  obtain⟨y5,hy5,hy51,hy52⟩:=bJ h
  refine bG rfl ?_
  refine rf [0,1,5] [] (I6 a_1 left_2 rfl ((ar (left_2 - (len a_1))),0) _ hy5 (fun r' e st hq=>by rw[hy51 r' e] at hq;exact hq) fun u5 hu=>?_)
  replace h:=hy52 u5 hu
  refine cq 5 [4] [I u5] 33 ?_
  obtain rfl:=Option.some.inj h
  exact aj rfl (qp [I u5])
theorem D7 {G:Go.Ln.Ground}:aI Tryz.prog G 57 rz:=gT 2 0 bg (Checked.mixed Tryz.checked) Tryz.func57 (fun a r h=>QP a.1 a.2 r h)
def sZ:(Condition×Int)→List V:=cA aP (oA I)
def tL (r:Int):V×List V:=(I r,[])
noncomputable def pg (slf_Ffbm:(Condition×Int)→Option Int):Ent:=aR [false,false] sZ tL slf_Ffbm
theorem Jx (slf_Ffbm:(Condition×Int)→Option Int){x}{r}(h:slf_Ffbm x=some r):(pg slf_Ffbm).F (sZ x)=some (tL r):=aC (aY cf (aB bO)) h
def Ci:((List Condition)×Int)→List V:=cA (ew ac) (oA I)
def B9 (r:Int):V×List V:=(I r,[])
noncomputable def xq (slf_Ffbm:(Condition×Int)→Option Int):Ent:=aR [false,false] Ci B9 fun x=>uk slf_Ffbm x.1 x.2
theorem Vf (slf_Ffbm:(Condition×Int)→Option Int){a_1:List Condition}{left_2:Int}{r}(h:uk slf_Ffbm a_1 left_2=some r):(xq slf_Ffbm).F (Ci (a_1,left_2))=some (B9 r):=aC (aY (bz dW) (aB bO)) h
noncomputable def Mg:Code:=az Tryz.f215
noncomputable def G9 (slf_Ffbm:(Condition×Int)→Option Int):Env:=bF Tryz.prog [(178,(pg slf_Ffbm))]
def Po (slf_Ffbm:(Condition×Int)→Option Int)(x:(List Condition)×Int)(r:Int):St→Prop:=QF (G9 slf_Ffbm) Tryz.f215 [false,false] (Ci x) (B9 r)
theorem I7 (slf_Ffbm:(Condition×Int)→Option Int)(a_1:List Condition)(left_2:Int):cd (G9 slf_Ffbm) 0 (Po slf_Ffbm (a_1,left_2)) (cL (cL (cR (cL (cR (cR (cR Mg))))))) 0 (nX slf_Ffbm a_1 left_2) (fun u=>(sT 27 [(1,I u)] [] 1)) fun x3=>(sT 27 [(0,.isl false (a_1.map ac)),(1,I x3.1),(5,I x3.2)] [] 1):=dT (vK slf_Ffbm a_1 left_2) fun {Q K} hK self ih x3 y h hr hn=>by
 unfold jB at h
 refine cq 5 [12,13] [I x3.2,.isl false (a_1.map ac)] 33 ?_
 refine oq 49 (I (len a_1)) rfl (aX rfl rfl rfl (bc rfl)) ?_
 refine cq 2 [15] [B (decide (x3.2<(len a_1)))] 65 ?_
 refine sq h (fun h=>?_) fun h=>?_
 ·refine aq 1 ?_
  refine cq 6 [18,19] [.isl false (a_1.map ac),I x3.2] 97 ?_
  obtain⟨e4,he4,h⟩:=bS h
  refine oq 113 (.iptr (aP e4) 0) rfl (ap rfl rfl rfl (aQ rfl rfl (ce e4) rfl he4)) ?_
  refine cq 2 [21,22] [aP e4,I x3.1] 145 ?_
  obtain⟨r5,hr5,h⟩:=bS h
  refine oq 161 (I r5) rfl (co rfl rfl (cI rfl rfl rfl (b9 (cQ rfl) (b9 (cQ rfl) dD)) (Jx slf_Ffbm hr5) (.inr rfl) d9 rfl rfl rfl)) ?_
  refine cq 7 [1,25] [I r5,B (decide (r5<0))] 209 ?_
  refine sq h (fun h=>?_) fun h=>?_
  ·refine cq 4 [4] [I (-1)] 225 ?_
   exact aj rfl (hr _ (Option.some.inj h).symm _ (qp [I (-1)]))
  ·refine aq 1 ?_
   refine cq 6 [5] [I (ar (x3.2+1))] 257 ?_
   refine cG ?_
   exact rf [0,1,5] [] (ih _ _ h hr hn :)
 ·refine aq 1 ?_
  exact rf [1] [] (hn _ (Option.some.inj h).symm :) (hk:=hK)
theorem Q4 (slf_Ffbm:(Condition×Int)→Option Int)(a_1:List Condition)(left_2:Int)(r:Int)(h:uk slf_Ffbm a_1 left_2=some r):be (G9 slf_Ffbm) Tryz.f215 [false,false] 0 (Ci (a_1,left_2)) (B9 r):=by
 show Run _ _ (Po slf_Ffbm (a_1,left_2) r) [.code Mg] _
 refine rI 27 [(0,.isl false (a_1.map ac)),(1,I left_2)] [] 1 ?_
 unfold uk at h
 refine cq 8 [6,7] [I left_2,.isl false (a_1.map ac)] 49 ?_
 refine oq 65 (I (len a_1)) rfl (aX rfl rfl rfl (bc rfl)) ?_
 refine cq 9 [1,11] [I (ar (left_2 - (len a_1))),B (decide ((ar (left_2 - (len a_1)))<0))] 129 ?_
 refine sq h (fun h=>?_) fun h=>?_
 ·refine cq 4 [4] [I (-1)] 145 ?_
  obtain rfl:=Option.some.inj h
  exact aj rfl (qp [I (-1)])
 ·refine aq 1 ?_
  refine cq 6 [5] [I (0)] 145 ?_
  obtain⟨y6,hy6,hy61,hy62⟩:=bJ h
  refine bG rfl ?_
  refine rf [0,1,5] [] (I7 slf_Ffbm a_1 left_2 rfl ((ar (left_2 - (len a_1))),0) _ hy6 (fun r' e st hq=>by rw[hy61 r' e] at hq;exact hq) fun u6 hu=>?_)
  replace h:=hy62 u6 hu
  refine cq 5 [4] [I u6] 33 ?_
  obtain rfl:=Option.some.inj h
  exact aj rfl (qp [I u6])
theorem Mt {G:Go.Ln.Ground}(slf_Ffbm:(Condition×Int)→Option Int)(g_Ffbm:aI Tryz.prog G 178 (pg slf_Ffbm)):aI Tryz.prog G 215 (xq slf_Ffbm):=gT 2 0 (aD g_Ffbm bg) (Checked.mixed Tryz.checked) Tryz.func215 (fun a r h=>Q4 slf_Ffbm a.1 a.2 r h)
noncomputable def yO:Ent:=pg (aJ mO)
theorem U2 {a_1:Condition}{left_2:Int}{r}(h:tI a_1 left_2=some r):yO.F (sZ (a_1,left_2))=some (tL r):=Jx (aJ mO) h
noncomputable def VJ:Code:=az Tryz.f178
noncomputable def Ow (slf_Ffbm:(Condition×Int)→Option Int):Env:=bF Tryz.prog [(215,(xq slf_Ffbm))]
def V6 (slf_Ffbm:(Condition×Int)→Option Int)(x:Condition×Int)(r:Int):St→Prop:=QF (Ow slf_Ffbm) Tryz.f178 [false,false] (sZ x) (tL r)
theorem QZ (slf_Ffbm:(Condition×Int)→Option Int)(a_1:Condition)(left_2:Int)(r:Int)(h:qm slf_Ffbm a_1 left_2=some r):be (Ow slf_Ffbm) Tryz.f178 [false,false] 0 (sZ (a_1,left_2)) (tL r):=by
 show Run _ _ (V6 slf_Ffbm (a_1,left_2) r) [.code VJ] _
 refine rI 19 [(0,aP a_1),(1,I left_2)] [] 1 ?_
 unfold qm at h
 refine ck 20 [1,2,11] [] [1] [] [I (ar (left_2 - (len a_1.Name))),.hp 1 0 [] 4 0 0,B (decide ((ar (left_2 - (len a_1.Name)))<0))] [some ⟨0,4,[aP a_1]⟩] 161 (by kernel_rfl) ?_
 refine sq h (fun h=>?_) fun h=>?_
 ·refine cq 4 [4] [I (-1)] 177 ?_
  obtain rfl:=Option.some.inj h
  exact aj rfl (qp [I (-1)])
 ·refine aq 1 ?_
  refine cq 5 [13,14] [.isl false (a_1.Parts.map ac),I (ar (left_2 - (len a_1.Name)))] 209 ?_
  obtain⟨r3,hr3,h⟩:=bS h
  refine oq 225 (I r3) rfl (co rfl rfl (cI rfl rfl rfl (b9 (cQ rfl) (b9 (cQ rfl) dD)) (Vf slf_Ffbm hr3) (.inr rfl) d9 rfl rfl rfl)) ?_
  refine cq 8 [1,17] [I r3,B (decide (r3<0))] 273 ?_
  refine sq h (fun h=>?_) fun h=>?_
  ·refine cq 4 [4] [I (-1)] 289 ?_
   obtain rfl:=Option.some.inj h
   exact aj rfl (qp [I (-1)])
  ·refine aq 1 ?_
   refine cq 5 [4] [I r3] 305 ?_
   obtain rfl:=Option.some.inj h
   exact aj rfl (qp [I r3])
theorem Ma {G:Go.Ln.Ground}:aI Tryz.prog G 178 yO:=jx fun slf_Ffbm g_Ffbm=>gT 2 0 (aD (Mt slf_Ffbm g_Ffbm) bg) (Checked.mixed Tryz.checked) Tryz.func178 (fun a r h=>QZ slf_Ffbm a.1 a.2 r h)
def A6:(Clause×Int)→List V:=cA aa (oA I)
def Cl (r:Int):V×List V:=(I r,[])
noncomputable def yJ:Ent:=aR [false,false] A6 Cl fun x=>sb x.1 x.2
theorem VT {a_1:Clause}{left_2:Int}{r}(h:sb a_1 left_2=some r):yJ.F (A6 (a_1,left_2))=some (Cl r):=aC (aY cp (aB bO)) h
noncomputable def VY:Code:=az Tryz.f113
noncomputable def Nu:Env:=bF Tryz.prog [(178,yO)]
def V9 (x:Clause×Int)(r:Int):St→Prop:=QF Nu Tryz.f113 [false,false] (A6 x) (Cl r)
theorem R4 (a_1:Clause)(left_2:Int)(r:Int)(h:sb a_1 left_2=some r):be Nu Tryz.f113 [false,false] 0 (A6 (a_1,left_2)) (Cl r):=by
 show Run _ _ (V9 (a_1,left_2) r) [.code VY] _
 refine rI 33 [(0,aa a_1),(1,I left_2)] [] 1 ?_
 unfold sb at h
 refine ck 20 [1,2,11] [] [1] [] [I (ar (left_2 - (len a_1.Id))),.hp 1 0 [] 12 0 0,B (decide ((ar (left_2 - (len a_1.Id)))<0))] [some ⟨0,12,[aa a_1]⟩] 161 (by kernel_rfl) ?_
 refine sq h (fun h=>?_) fun h=>?_
 ·refine cq 4 [4] [I (-1)] 177 ?_
  obtain rfl:=Option.some.inj h
  exact aj rfl (qp [I (-1)])
 ·refine aq 1 ?_
  refine cq 15 [1,18] [I (ar ((ar (left_2 - (len a_1.Id))) - (len a_1.Action))),B (decide ((ar ((ar (left_2 - (len a_1.Id))) - (len a_1.Action)))<0))] 289 ?_
  refine sq h (fun h=>?_) fun h=>?_
  ·refine cq 4 [4] [I (-1)] 305 ?_
   obtain rfl:=Option.some.inj h
   exact aj rfl (qp [I (-1)])
  ·refine aq 1 ?_
   refine cq 5 [20,21] [aP a_1.When,I (ar ((ar (left_2 - (len a_1.Id))) - (len a_1.Action)))] 337 ?_
   obtain⟨r3,hr3,h⟩:=bS h
   refine oq 353 (I r3) rfl (cP (U2 hr3)) ?_
   refine cq 8 [1,24] [I r3,B (decide (r3<0))] 401 ?_
   refine sq h (fun h=>?_) fun h=>?_
   ·refine cq 4 [4] [I (-1)] 417 ?_
    obtain rfl:=Option.some.inj h
    exact aj rfl (qp [I (-1)])
   ·refine aq 1 ?_
    refine cq 15 [1,31] [I (ar (r3 - (len a_1.Repair))),B (decide ((ar (r3 - (len a_1.Repair)))<0))] 529 ?_
    refine sq h (fun h=>?_) fun h=>?_
    ·refine cq 4 [4] [I (-1)] 545 ?_
     obtain rfl:=Option.some.inj h
     exact aj rfl (qp [I (-1)])
    ·refine aq 1 ?_
     refine cq 5 [4] [I (ar (r3 - (len a_1.Repair)))] 561 ?_
     obtain rfl:=Option.some.inj h
     exact aj rfl (qp [I (ar (r3 - (len a_1.Repair)))])
theorem OC {G:Go.Ln.Ground}:aI Tryz.prog G 113 yJ:=gT 2 0 (aD Ma bg) (Checked.mixed Tryz.checked) Tryz.func113 (fun a r h=>R4 a.1 a.2 r h)
def Br:((List Clause)×Int)→List V:=cA (ew aa) (oA I)
def zF (r:Int):V×List V:=(I r,[])
noncomputable def xE:Ent:=aR [false,false] Br zF fun x=>xP x.1 x.2
theorem Uu {a_1:List Clause}{left_2:Int}{r}(h:xP a_1 left_2=some r):xE.F (Br (a_1,left_2))=some (zF r):=aC (aY (bz cp) (aB bO)) h
noncomputable def Og:Code:=az Tryz.f58
noncomputable def Hd:Env:=bF Tryz.prog [(113,yJ)]
def MR (x:(List Clause)×Int)(r:Int):St→Prop:=QF Hd Tryz.f58 [false,false] (Br x) (zF r)
theorem Ie (a_1:List Clause)(left_2:Int):cd Hd 0 (MR (a_1,left_2)) (cL (cL (cR (cL (cR (cR (cR Og))))))) 0 (qf a_1 left_2) (fun u=>(sT 27 [(1,I u)] [] 1)) fun x3=>(sT 27 [(0,.isl false (a_1.map aa)),(1,I x3.1),(5,I x3.2)] [] 1):=dT (wz a_1 left_2) fun {Q K} hK self ih x3 y h hr hn=>by
 unfold kI at h
 refine cq 5 [12,13] [I x3.2,.isl false (a_1.map aa)] 33 ?_
 refine oq 49 (I (len a_1)) rfl (aX rfl rfl rfl (bc rfl)) ?_
 refine cq 2 [15] [B (decide (x3.2<(len a_1)))] 65 ?_
 refine sq h (fun h=>?_) fun h=>?_
 ·refine aq 1 ?_
  refine cq 6 [18,19] [.isl false (a_1.map aa),I x3.2] 97 ?_
  obtain⟨e4,he4,h⟩:=bS h
  refine oq 113 (.iptr (aa e4) 0) rfl (ap rfl rfl rfl (aQ rfl rfl rfl rfl he4)) ?_
  refine cq 2 [21,22] [aa e4,I x3.1] 145 ?_
  obtain⟨r5,hr5,h⟩:=bS h
  refine oq 161 (I r5) rfl (cP (VT hr5)) ?_
  refine cq 7 [1,25] [I r5,B (decide (r5<0))] 209 ?_
  refine sq h (fun h=>?_) fun h=>?_
  ·refine cq 4 [4] [I (-1)] 225 ?_
   exact aj rfl (hr _ (Option.some.inj h).symm _ (qp [I (-1)]))
  ·refine aq 1 ?_
   refine cq 6 [5] [I (ar (x3.2+1))] 257 ?_
   refine cG ?_
   exact rf [0,1,5] [] (ih _ _ h hr hn :)
 ·refine aq 1 ?_
  exact rf [1] [] (hn _ (Option.some.inj h).symm :) (hk:=hK)
theorem Qq (a_1:List Clause)(left_2:Int)(r:Int)(h:xP a_1 left_2=some r):be Hd Tryz.f58 [false,false] 0 (Br (a_1,left_2)) (zF r):=by
 show Run _ _ (MR (a_1,left_2) r) [.code Og] _
 refine rI 27 [(0,.isl false (a_1.map aa)),(1,I left_2)] [] 1 ?_
 unfold xP at h
 refine cq 8 [6,7] [I left_2,.isl false (a_1.map aa)] 49 ?_
 refine oq 65 (I (len a_1)) rfl (aX rfl rfl rfl (bc rfl)) ?_
 refine cq 9 [1,11] [I (ar (left_2 - (len a_1))),B (decide ((ar (left_2 - (len a_1)))<0))] 129 ?_
 refine sq h (fun h=>?_) fun h=>?_
 ·refine cq 4 [4] [I (-1)] 145 ?_
  obtain rfl:=Option.some.inj h
  exact aj rfl (qp [I (-1)])
 ·refine aq 1 ?_
  refine cq 6 [5] [I (0)] 145 ?_
  obtain⟨y6,hy6,hy61,hy62⟩:=bJ h
  refine bG rfl ?_
  refine rf [0,1,5] [] (Ie a_1 left_2 rfl ((ar (left_2 - (len a_1))),0) _ hy6 (fun r' e st hq=>by rw[hy61 r' e] at hq;exact hq) fun u6 hu=>?_)
  replace h:=hy62 u6 hu
  refine cq 5 [4] [I u6] 33 ?_
  obtain rfl:=Option.some.inj h
  exact aj rfl (qp [I u6])
theorem Nj {G:Go.Ln.Ground}:aI Tryz.prog G 58 xE:=gT 2 0 (aD OC bg) (Checked.mixed Tryz.checked) Tryz.func58 (fun a r h=>Qq a.1 a.2 r h)
def yX:(Contract×Int)→List V:=cA aG (oA I)
def Bn (r:Int):V×List V:=(I r,[])
noncomputable def yM:Ent:=aR [false,false] yX Bn fun x=>yG x.1 x.2
theorem VC {a_1:Contract}{left_2:Int}{r}(h:yG a_1 left_2=some r):yM.F (yX (a_1,left_2))=some (Bn r):=aC (aY aV (aB bO)) h
noncomputable def Vd:Code:=az Tryz.f15
noncomputable def LB:Env:=bF Tryz.prog [(57,rz),(58,xE)]
def Ug (x:Contract×Int)(r:Int):St→Prop:=QF LB Tryz.f15 [false,false] (yX x) (Bn r)
theorem P0 (a_1:Contract)(left_2:Int)(r:Int)(h:yG a_1 left_2=some r):be LB Tryz.f15 [false,false] 0 (yX (a_1,left_2)) (Bn r):=by
 show Run _ _ (Ug (a_1,left_2) r) [.code Vd] _
 refine rI 18 [(0,aG a_1),(1,I left_2)] [] 1 ?_
 unfold yG at h
 refine ck 10 [2,6,7] [] [1] [] [.hp 1 0 [] 2 0 0,.isl false (a_1.Parties.map str),I left_2] [some ⟨0,2,[aG a_1]⟩] 81 (by kernel_rfl) ?_
 obtain⟨r3,hr3,h⟩:=bS h
 refine oq 97 (I r3) rfl (cP (NJ hr3)) ?_
 refine cq 8 [1,10] [I r3,B (decide (r3<0))] 145 ?_
 refine sq h (fun h=>?_) fun h=>?_
 ·refine cq 4 [4] [I (-1)] 161 ?_
  obtain rfl:=Option.some.inj h
  exact aj rfl (qp [I (-1)])
 ·refine aq 1 ?_
  refine cq 5 [12,13] [.isl false (a_1.Clauses.map aa),I r3] 193 ?_
  obtain⟨r4,hr4,h⟩:=bS h
  refine oq 209 (I r4) rfl (cP (Uu hr4)) ?_
  refine cq 8 [1,16] [I r4,B (decide (r4<0))] 257 ?_
  refine sq h (fun h=>?_) fun h=>?_
  ·refine cq 4 [4] [I (-1)] 273 ?_
   obtain rfl:=Option.some.inj h
   exact aj rfl (qp [I (-1)])
  ·refine aq 1 ?_
   refine cq 5 [4] [I r4] 289 ?_
   obtain rfl:=Option.some.inj h
   exact aj rfl (qp [I r4])
theorem OH {G:Go.Ln.Ground}:aI Tryz.prog G 15 yM:=gT 2 0 (aD D7 (aD Nj bg)) (Checked.mixed Tryz.checked) Tryz.func15 (fun a r h=>P0 a.1 a.2 r h)
def Ce:((List Duty)×Int)→List V:=cA (ew ah) (oA I)
def zO (r:Int):V×List V:=(I r,[])
noncomputable def xA:Ent:=aR [false,false] Ce zO fun x=>xL x.1 x.2
theorem Vt {a_1:List Duty}{left_2:Int}{r}(h:xL a_1 left_2=some r):xA.F (Ce (a_1,left_2))=some (zO r):=aC (aY (bz cZ) (aB bO)) h
noncomputable def Ub:Code:=az Tryz.f59
noncomputable def Nd:Env:=bF Tryz.prog []
def UG (x:(List Duty)×Int)(r:Int):St→Prop:=QF Nd Tryz.f59 [false,false] (Ce x) (zO r)
theorem Qx (a_1:List Duty)(left_2:Int)(r:Int)(h:xL a_1 left_2=some r):be Nd Tryz.f59 [false,false] 0 (Ce (a_1,left_2)) (zO r):=by
 show Run _ _ (UG (a_1,left_2) r) [.code Ub] _
 refine rI 12 [(0,.isl false (a_1.map ah)),(1,I left_2)] [] 1 ?_
 unfold xL at h
 refine cq 8 [5,6] [I left_2,.isl false (a_1.map ah)] 49 ?_
 refine oq 65 (I (len a_1)) rfl (aX rfl rfl rfl (bc rfl)) ?_
 refine cq 9 [1,10] [I (ar (left_2 - (len a_1))),B (decide ((ar (left_2 - (len a_1)))<0))] 129 ?_
 refine sq h (fun h=>?_) fun h=>?_
 ·refine cq 4 [4] [I (-1)] 145 ?_
  obtain rfl:=Option.some.inj h
  exact aj rfl (qp [I (-1)])
 ·refine aq 1 ?_
  refine cq 5 [4] [I (ar (left_2 - (len a_1)))] 161 ?_
  obtain rfl:=Option.some.inj h
  exact aj rfl (qp [I (ar (left_2 - (len a_1)))])
theorem NH {G:Go.Ln.Ground}:aI Tryz.prog G 59 xA:=gT 2 0 bg (Checked.mixed Tryz.checked) Tryz.func59 (fun a r h=>Qx a.1 a.2 r h)
def zS:((List Int)×Int)→List V:=cA (ew I) (oA I)
def zI (r:Int):V×List V:=(I r,[])
noncomputable def yR:Ent:=aR [false,false] zS zI fun x=>wQ x.1 x.2
theorem Vs {a_1:List Int}{left_2:Int}{r}(h:wQ a_1 left_2=some r):yR.F (zS (a_1,left_2))=some (zI r):=aC (aY (bz bO) (aB bO)) h
noncomputable def VM:Code:=az Tryz.f60
noncomputable def Nw:Env:=bF Tryz.prog []
def V2 (x:(List Int)×Int)(r:Int):St→Prop:=QF Nw Tryz.f60 [false,false] (zS x) (zI r)
theorem P1 (a_1:List Int)(left_2:Int)(r:Int)(h:wQ a_1 left_2=some r):be Nw Tryz.f60 [false,false] 0 (zS (a_1,left_2)) (zI r):=by
 show Run _ _ (V2 (a_1,left_2) r) [.code VM] _
 refine rI 12 [(0,.isl false (a_1.map I)),(1,I left_2)] [] 1 ?_
 unfold wQ at h
 refine cq 8 [5,6] [I left_2,.isl false (a_1.map I)] 49 ?_
 refine oq 65 (I (len a_1)) rfl (aX rfl rfl rfl (bc rfl)) ?_
 refine cq 9 [1,10] [I (ar (left_2 - (len a_1))),B (decide ((ar (left_2 - (len a_1)))<0))] 129 ?_
 refine sq h (fun h=>?_) fun h=>?_
 ·refine cq 4 [4] [I (-1)] 145 ?_
  obtain rfl:=Option.some.inj h
  exact aj rfl (qp [I (-1)])
 ·refine aq 1 ?_
  refine cq 5 [4] [I (ar (left_2 - (len a_1)))] 161 ?_
  obtain rfl:=Option.some.inj h
  exact aj rfl (qp [I (ar (left_2 - (len a_1)))])
theorem NT {G:Go.Ln.Ground}:aI Tryz.prog G 60 yR:=gT 2 0 bg (Checked.mixed Tryz.checked) Tryz.func60 (fun a r h=>P1 a.1 a.2 r h)
def AR:(State×Int)→List V:=cA bX (oA I)
def A7 (r:Int):V×List V:=(I r,[])
noncomputable def yy:Ent:=aR [false,false] AR A7 fun x=>xy x.1 x.2
theorem UH {a_1:State}{left_2:Int}{r}(h:xy a_1 left_2=some r):yy.F (AR (a_1,left_2))=some (A7 r):=aC (aY cY (aB bO)) h
noncomputable def Vk:Code:=az Tryz.f16
noncomputable def MX:Env:=bF Tryz.prog [(57,rz),(59,xA),(60,yR)]
def UJ (x:State×Int)(r:Int):St→Prop:=QF MX Tryz.f16 [false,false] (AR x) (A7 r)
theorem Q0 (a_1:State)(left_2:Int)(r:Int)(h:xy a_1 left_2=some r):be MX Tryz.f16 [false,false] 0 (AR (a_1,left_2)) (A7 r):=by
 show Run _ _ (UJ (a_1,left_2) r) [.code Vk] _
 refine rI 24 [(0,bX a_1),(1,I left_2)] [] 1 ?_
 unfold xy at h
 refine ck 10 [2,6,7] [] [1] [] [.hp 1 0 [] 5 0 0,.isl false (a_1.Facts.map str),I left_2] [some ⟨0,5,[bX a_1]⟩] 81 (by kernel_rfl) ?_
 obtain⟨r3,hr3,h⟩:=bS h
 refine oq 97 (I r3) rfl (cP (NJ hr3)) ?_
 refine cq 8 [1,10] [I r3,B (decide (r3<0))] 145 ?_
 refine sq h (fun h=>?_) fun h=>?_
 ·refine cq 4 [4] [I (-1)] 161 ?_
  obtain rfl:=Option.some.inj h
  exact aj rfl (qp [I (-1)])
 ·refine aq 1 ?_
  refine cq 5 [12,13] [.isl false (a_1.Duties.map ah),I r3] 193 ?_
  obtain⟨r4,hr4,h⟩:=bS h
  refine oq 209 (I r4) rfl (cP (Vt hr4)) ?_
  refine cq 8 [1,16] [I r4,B (decide (r4<0))] 257 ?_
  refine sq h (fun h=>?_) fun h=>?_
  ·refine cq 4 [4] [I (-1)] 273 ?_
   obtain rfl:=Option.some.inj h
   exact aj rfl (qp [I (-1)])
  ·refine aq 1 ?_
   refine cq 5 [18,19] [.isl false (a_1.Balances.map I),I r4] 305 ?_
   obtain⟨r5,hr5,h⟩:=bS h
   refine oq 321 (I r5) rfl (cP (Vs hr5)) ?_
   refine cq 8 [1,22] [I r5,B (decide (r5<0))] 369 ?_
   refine sq h (fun h=>?_) fun h=>?_
   ·refine cq 4 [4] [I (-1)] 385 ?_
    obtain rfl:=Option.some.inj h
    exact aj rfl (qp [I (-1)])
   ·refine aq 1 ?_
    refine cq 5 [4] [I r5] 401 ?_
    obtain rfl:=Option.some.inj h
    exact aj rfl (qp [I r5])
theorem NL {G:Go.Ln.Ground}:aI Tryz.prog G 16 yy:=gT 2 0 (aD D7 (aD NH (aD NT bg))) (Checked.mixed Tryz.checked) Tryz.func16 (fun a r h=>Q0 a.1 a.2 r h)
def AV:(List ae)→List V:=oA (ew str)
def AK (r:(List ae)):V×List V:=(.usl 1 (r.map str),[])
noncomputable def sC:Ent:=aR [false] AV AK fun x=>uh x
theorem OE {a_1:List ae}{r}(h:uh a_1=some r):sC.F (AV a_1)=some (AK r):=aC (aB (bz bm)) h
noncomputable def Ol:Code:=az Tryz.f62
noncomputable def Hi:Env:=bF Tryz.prog []
def Md (x:(List ae))(r:(List ae)):St→Prop:=QF Hi Tryz.f62 [false] (AV x) (AK r)
theorem IQ (a_1:List ae):cd Hi 0 (Md a_1) (cL (cL (cR (cL (cR (cR Ol)))))) 0 (qc a_1) (fun u=>(sT 22 [(3,.hs 1 0 [] 1 0 (u.map str).length)] [⟨0,1,u.map str⟩] 2)) fun x3=>(sT 22 [(0,.isl false (a_1.map str)),(3,.hs 1 0 [] 1 0 (x3.2.map str).length),(4,I x3.1)] [⟨0,1,x3.2.map str⟩] 2):=dT (vz a_1) fun {Q K} hK self ih x3 y h hr hn=>by
 unfold ly at h
 refine cq 5 [8,9] [I x3.1,.isl false (a_1.map str)] 34 ?_
 refine oq 50 (I (len a_1)) rfl (aX rfl rfl rfl (bc rfl)) ?_
 refine cq 2 [11] [B (decide (x3.1<(len a_1)))] 66 ?_
 refine sq h (fun h=>?_) fun h=>?_
 ·refine aq 1 ?_
  refine cq 7 [14,15,16,17] [.hs 1 0 [] 1 0 (x3.2.map str).length,I x3.1,.isl false (a_1.map str),I x3.1] 130 ?_
  obtain⟨e4,he4,h⟩:=bS h
  refine oq 146 (.iptr (str e4) 0) rfl (ap rfl rfl rfl (aQ rfl rfl rfl rfl he4)) ?_
  refine cq 1 [19] [str e4] 162 ?_
  obtain⟨e5,he5,h⟩:=bS h
  refine oq 178 (.hp 1 0 [] 1 (0+Int.toNat x3.1) 0) rfl (ap rfl rfl rfl (gO (f:=str) (xs:=x3.2) rfl rfl rfl he5)) ?_
  refine o0 194 rfl rfl (gc rfl rfl (eP (path:=[]) (pl:=true) (e':=str e4) (es2':=(eu x3.2 x3.1 e4).map str) rfl (eD rfl) rfl rfl rfl aZ (fO (f:=str) (xs:=x3.2) he5) rfl rfl rfl (lb (f:=str) (xs:=x3.2) (y:=e4)) dU 0 rfl)) ?_
  try rw[←jf (f:=str) (xs:=x3.2) (i:=x3.1) (z:=e4)]
  refine cq 7 [4] [I (ar (x3.1+1))] 242 ?_
  refine cG ?_
  exact rf [0,3,4] [1] (ih _ _ h hr hn :)
 ·refine aq 1 ?_
  exact rf [3] [1] (hn _ (Option.some.inj h).symm :) (hk:=hK)
theorem P3 (a_1:List ae)(r:(List ae))(h:uh a_1=some r):be Hi Tryz.f62 [false] 0 (AV a_1) (AK r):=by
 show Run _ _ (Md a_1 r) [.code Ol] _
 refine rI 22 [(0,.isl false (a_1.map str))] [] 1 ?_
 unfold uh at h
 refine cq 7 [5] [.isl false (a_1.map str)] 33 ?_
 refine oq 49 (I (len a_1)) rfl (aX rfl rfl rfl (bc rfl)) ?_
 obtain⟨m2,hm2,h⟩:=bS h
 refine oq 65 (.hs 49 0 [] 1 0 (m2.map str).length) rfl (iM rfl rfl (Ah (f:=str) rfl rfl rfl (by decide) hm2 rfl)) ?_
 refine cq 8 [3,4] [.hs 49 0 [] 1 0 (m2.map str).length,I (0)] 97 ?_
 obtain⟨y6,hy6,hy61,hy62⟩:=bJ h
 refine bG rfl ?_
 refine rf [0,3,4] [49] (IQ a_1 rfl (0,m2) _ hy6 (fun r' e st hq=>by rw[hy61 r' e] at hq;exact hq) fun u6 hu=>?_)
 replace h:=hy62 u6 hu
 refine cq 5 [2] [.hs 1 0 [] 1 0 (u6.map str).length] 34 ?_
 obtain rfl:=Option.some.inj h
 exact aj rfl ⟨_,fin (vs:=[.hs 1 0 [] 1 0 (u6.map str).length]) rfl (fB (fk rfl (cN rfl rfl)) et) rfl (eZ fK),fD⟩
theorem Ep {G:Go.Ln.Ground}:aI Tryz.prog G 62 sC:=gT 1 0 bg (Checked.mixed Tryz.checked) Tryz.func62 (fun a r h=>P3 a r h)
def te:Condition→List V:=oA aP
def uH (r:Condition):V×List V:=(.agg [I r.Op,str r.Name,I r.Day,.usl 4 (r.Parts.map ao)],[])
noncomputable def pm (slf_Ffbv:Condition→Option Condition):Ent:=aR [false] te uH slf_Ffbv
theorem Js (slf_Ffbv:Condition→Option Condition){x}{r}(h:slf_Ffbv x=some r):(pm slf_Ffbv).F (te x)=some (uH r):=aC (aB cf) h
def Bv:(List Condition)→List V:=oA (ew ac)
def zq (r:(List Condition)):V×List V:=(.usl 4 (r.map ao),[])
noncomputable def wP (slf_Ffbv:Condition→Option Condition):Ent:=aR [false] Bv zq fun x=>tu slf_Ffbv x
theorem UN (slf_Ffbv:Condition→Option Condition){a_1:List Condition}{r}(h:tu slf_Ffbv a_1=some r):(wP slf_Ffbv).F (Bv a_1)=some (zq r):=aC (aB (bz dW)) h
noncomputable def LD:Code:=az Tryz.f216
noncomputable def Gr (slf_Ffbv:Condition→Option Condition):Env:=bF Tryz.prog [(183,(pm slf_Ffbv))]
def MJ (slf_Ffbv:Condition→Option Condition)(x:(List Condition))(r:(List Condition)):St→Prop:=QF (Gr slf_Ffbv) Tryz.f216 [false] (Bv x) (zq r)
theorem Ip (slf_Ffbv:Condition→Option Condition)(a_1:List Condition):cd (Gr slf_Ffbv) 0 (MJ slf_Ffbv a_1) (cL (cL (cR (cL (cR (cR LD)))))) 0 (ob slf_Ffbv a_1) (fun u=>(sT 23 [(3,.hs 1 0 [] 4 0 (u.map ao).length)] [⟨0,4,u.map ao⟩] 2)) fun x3=>(sT 23 [(0,.isl false (a_1.map ac)),(3,.hs 1 0 [] 4 0 (x3.2.map ao).length),(4,I x3.1)] [⟨0,4,x3.2.map ao⟩] 2):=dT (v7 slf_Ffbv a_1) fun {Q K} hK self ih x3 y h hr hn=>by
 unfold jm at h
 refine cq 5 [8,9] [I x3.1,.isl false (a_1.map ac)] 34 ?_
 refine oq 50 (I (len a_1)) rfl (aX rfl rfl rfl (bc rfl)) ?_
 refine cq 2 [11] [B (decide (x3.1<(len a_1)))] 66 ?_
 refine sq h (fun h=>?_) fun h=>?_
 ·refine aq 1 ?_
  refine cq 7 [14,15,16,17] [.hs 1 0 [] 4 0 (x3.2.map ao).length,I x3.1,.isl false (a_1.map ac),I x3.1] 130 ?_
  obtain⟨e4,he4,h⟩:=bS h
  refine oq 146 (.iptr (aP e4) 0) rfl (ap rfl rfl rfl (aQ rfl rfl (ce e4) rfl he4)) ?_
  refine cq 1 [19] [aP e4] 162 ?_
  obtain⟨r5,hr5,h⟩:=bS h
  refine oq 178 (.agg [I r5.Op,str r5.Name,I r5.Day,.hs 162 0 [] 4 0 (r5.Parts.map ao).length]) rfl (co rfl rfl (cI rfl rfl rfl (b9 (cQ rfl) dD) (Js slf_Ffbv hr5) (.inr rfl) d9 rfl rfl rfl)) ?_
  obtain⟨e6,he6,h⟩:=bS h
  refine oq 194 (.hp 1 0 [] 4 (0+Int.toNat x3.1) 0) rfl (ap rfl rfl rfl (gO (f:=ao) (xs:=x3.2) rfl rfl rfl he6)) ?_
  refine o0 210 rfl rfl (gc rfl rfl (eP (path:=[]) (pl:=false) (e':=.agg [I r5.Op,str r5.Name,I r5.Day,.usl 4 (r5.Parts.map ao)]) (es2':=(eu x3.2 x3.1 r5).map ao) rfl (ml (bI (ca rfl) (bI (ca rfl) (bI (ca rfl) (bI (cN rfl rfl) my))))) rfl rfl rfl aZ (Qd (f:=ao) (xs:=x3.2) (jY e6) he6) rfl rfl rfl (Q1 (f:=ao) (xs:=x3.2) (jY r5)) dU 1 rfl)) ?_
  try rw[←jf (f:=ao) (xs:=x3.2) (i:=x3.1) (z:=r5)]
  refine cq 7 [4] [I (ar (x3.1+1))] 258 ?_
  refine cG ?_
  exact rf [0,3,4] [1] (ih _ _ h hr hn :)
 ·refine aq 1 ?_
  exact rf [3] [1] (hn _ (Option.some.inj h).symm :) (hk:=hK)
theorem Rr (slf_Ffbv:Condition→Option Condition)(a_1:List Condition)(r:(List Condition))(h:tu slf_Ffbv a_1=some r):be (Gr slf_Ffbv) Tryz.f216 [false] 0 (Bv a_1) (zq r):=by
 show Run _ _ (MJ slf_Ffbv a_1 r) [.code LD] _
 refine rI 23 [(0,.isl false (a_1.map ac))] [] 1 ?_
 unfold tu at h
 refine cq 7 [5] [.isl false (a_1.map ac)] 33 ?_
 refine oq 49 (I (len a_1)) rfl (aX rfl rfl rfl (bc rfl)) ?_
 obtain⟨m2,hm2,h⟩:=bS h
 refine oq 65 (.hs 49 0 [] 4 0 (m2.map ao).length) rfl (iM rfl rfl (Na (g:=ao) (f:=fun _=>(.agg [I (0),str ([]),I (0),.isl true []]:V)) (z0:=(Condition.mk 0 [] 0 [])) rfl rfl rfl (by decide) hm2 rfl)) ?_
 refine d8 49 (m2.map ao) rfl rfl (Hu hm2 ((jY _).symm▸fi (au (.refl _) (au (.refl _) (au (.refl _) (au (.nil _) dA)))))) ?_
 refine cq 8 [3,4] [.hs 49 0 [] 4 0 (m2.map ao).length,I (0)] 97 ?_
 obtain⟨y7,hy7,hy71,hy72⟩:=bJ h
 refine bG rfl ?_
 refine rf [0,3,4] [49] (Ip slf_Ffbv a_1 rfl (0,m2) _ hy7 (fun r' e st hq=>by rw[hy71 r' e] at hq;exact hq) fun u7 hu=>?_)
 replace h:=hy72 u7 hu
 refine cq 5 [2] [.hs 1 0 [] 4 0 (u7.map ao).length] 34 ?_
 obtain rfl:=Option.some.inj h
 exact aj rfl ⟨_,fin (vs:=[.hs 1 0 [] 4 0 (u7.map ao).length]) rfl (fB (fk rfl (cN rfl rfl)) et) rfl (eZ fK),fD⟩
theorem Pb {G:Go.Ln.Ground}(slf_Ffbv:Condition→Option Condition)(g_Ffbv:aI Tryz.prog G 183 (pm slf_Ffbv)):aI Tryz.prog G 216 (wP slf_Ffbv):=gT 1 0 (aD g_Ffbv bg) (Checked.mixed Tryz.checked) Tryz.func216 (fun a r h=>Rr slf_Ffbv a r h)
noncomputable def xQ:Ent:=pm (aJ mP)
theorem UF {a_1:Condition}{r}(h:wF a_1=some r):xQ.F (te a_1)=some (uH r):=Js (aJ mP) h
noncomputable def We:Code:=az Tryz.f183
noncomputable def LJ (slf_Ffbv:Condition→Option Condition):Env:=bF Tryz.prog [(216,(wP slf_Ffbv))]
def UU (slf_Ffbv:Condition→Option Condition)(x:Condition)(r:Condition):St→Prop:=QF (LJ slf_Ffbv) Tryz.f183 [false] (te x) (uH r)
theorem Qy (slf_Ffbv:Condition→Option Condition)(a_1:Condition)(r:Condition)(h:qT slf_Ffbv a_1=some r):be (LJ slf_Ffbv) Tryz.f183 [false] 0 (te a_1) (uH r):=by
 show Run _ _ (UU slf_Ffbv a_1 r) [.code We] _
 refine rI 18 [(0,aP a_1)] [] 1 ?_
 unfold qT at h
 refine ck 4 [1,2] [] [1,17] [] [.hp 1 0 [] 4 0 0,.hp 17 0 [] 4 0 0] [some ⟨0,4,[aP a_1]⟩,some ⟨0,4,[.agg [I (0),str ([]),I (0),.isl true []]]⟩] 33 (by kernel_rfl) ?_
 refine d8 17 [.agg [I (0),str ([]),I (0),.usl 4 (([]).map ao)]] rfl rfl (au (fi (au (.refl _) (au (.refl _) (au (.refl _) (au (.nil _) dA))))) dA) ?_
 refine ck 4 [3] [] [33] [] [.hp 33 0 [] 4 0 0] [some ⟨0,4,[.agg [I (0),str ([]),I (0),.isl true []]]⟩] 49 (by kernel_rfl) ?_
 refine d8 33 [.agg [I (0),str ([]),I (0),.usl 4 (([]).map ao)]] rfl rfl (au (fi (au (.refl _) (au (.refl _) (au (.refl _) (au (.nil _) dA))))) dA) ?_
 refine ck 26 [14] [] [33] [] [.isl false (a_1.Parts.map ac)] [some ⟨1,4,[.agg [I a_1.Op,str a_1.Name,I a_1.Day,.usl 4 (([]).map ao)]]⟩] 273 (by kernel_rfl) ?_
 obtain⟨r2,hr2,h⟩:=bS h
 refine oq 289 (.hs 273 0 [] 4 0 (r2.map ao).length) rfl (co rfl rfl (cI rfl rfl rfl (b9 (cQ rfl) dD) (UN slf_Ffbv hr2) (.inr rfl) d9 rfl rfl rfl)) ?_
 refine cq 1 [16] [.hp 33 0 [] 4 0 3] 305 ?_
 refine o0 321 rfl rfl (gc rfl rfl (eP (path:=[]) (pl:=false) (e':=.agg [I a_1.Op,str a_1.Name,I a_1.Day,.usl 4 (r2.map ao)]) (es2':=[.agg [I a_1.Op,str a_1.Name,I a_1.Day,.usl 4 (r2.map ao)]]) rfl (fk rfl (cN rfl rfl)) rfl rfl rfl aZ rfl rfl rfl rfl rfl dU 2 rfl)) ?_
 refine cq 4 [17] [.agg [I a_1.Op,str a_1.Name,I a_1.Day,.hs 33 2 [(0,3)] 4 0 (r2.map ao).length]] 337 ?_
 refine o0 353 rfl rfl (gc rfl rfl (eP (path:=[]) (pl:=false) (e':=.agg [I a_1.Op,str a_1.Name,I a_1.Day,.usl 4 (r2.map ao)]) (es2':=[.agg [I a_1.Op,str a_1.Name,I a_1.Day,.usl 4 (r2.map ao)]]) rfl (ml (bI (ca rfl) (bI (ca rfl) (bI (ca rfl) (bI (fX (path:=[(0,3)]) rfl rfl (ez rfl rfl aZ) rfl (lD (path:=[]) (i:=0) (k:=3) (e':=.agg [I a_1.Op,str a_1.Name,I a_1.Day,.dead]) (es2':=[.agg [I a_1.Op,str a_1.Name,I a_1.Day,.dead]]) aZ rfl rfl rfl dU)) my))))) rfl rfl rfl aZ rfl rfl rfl rfl rfl dU 2 rfl)) ?_
 refine aq 1 ?_
 obtain rfl:=Option.some.inj h
 exact aj rfl ⟨_,fin (vs:=[.agg [I a_1.Op,str a_1.Name,I a_1.Day,.hs 17 2 [(0,3)] 4 0 (r2.map ao).length]]) (H3 (qj rfl rfl rfl) HD) (fB (ml (bI (ca rfl) (bI (ca rfl) (bI (ca rfl) (bI (fX (path:=[(0,3)]) rfl rfl (ez rfl rfl aZ) rfl (lD (path:=[]) (i:=0) (k:=3) (e':=.agg [I a_1.Op,str a_1.Name,I a_1.Day,.dead]) (es2':=[.agg [I a_1.Op,str a_1.Name,I a_1.Day,.dead]]) aZ rfl rfl rfl dU)) my))))) et) rfl (eZ fK),fD⟩
theorem LZ {G:Go.Ln.Ground}:aI Tryz.prog G 183 xQ:=jx fun slf_Ffbv g_Ffbv=>gT 1 0 (aD (Pb slf_Ffbv g_Ffbv) bg) (Checked.mixed Tryz.checked) Tryz.func183 (fun a r h=>Qy slf_Ffbv a r h)
def AG:Clause→List V:=oA aa
def AP (r:Clause):V×List V:=(.agg [str r.Id,I r.Kind,I r.Party,str r.Action,I r.Other,I r.Amount,I r.When.Op,str r.When.Name,I r.When.Day,.usl 4 (r.When.Parts.map ao),I r.Within,str r.Repair],[])
noncomputable def yf:Ent:=aR [false] AG AP fun x=>tU x
theorem VA {a_1:Clause}{r}(h:tU a_1=some r):yf.F (AG a_1)=some (AP r):=aC (aB cp) h
noncomputable def VZ:Code:=az Tryz.f121
noncomputable def Mh:Env:=bF Tryz.prog [(183,xQ)]
def UK (x:Clause)(r:Clause):St→Prop:=QF Mh Tryz.f121 [false] (AG x) (AP r)
theorem PH (a_1:Clause)(r:Clause)(h:tU a_1=some r):be Mh Tryz.f121 [false] 0 (AG a_1) (AP r):=by
 show Run _ _ (UK a_1 r) [.code VZ] _
 refine rI 33 [(0,aa a_1)] [] 1 ?_
 unfold tU at h
 refine ck 4 [1,2] [] [1,17] [] [.hp 1 0 [] 12 0 0,.hp 17 0 [] 12 0 0] [some ⟨0,12,[aa a_1]⟩,some ⟨0,12,[.agg [str ([]),I (0),I (0),str ([]),I (0),I (0),I (0),str ([]),I (0),.isl true [],I (0),str ([])]]⟩] 33 (by kernel_rfl) ?_
 refine d8 17 [.agg [str ([]),I (0),I (0),str ([]),I (0),I (0),I (0),str ([]),I (0),.usl 4 (([]).map ao),I (0),str ([])]] rfl rfl (au (fi (au (.refl _) (au (.refl _) (au (.refl _) (au (.refl _) (au (.refl _) (au (.refl _) (au (.refl _) (au (.refl _) (au (.refl _) (au (.nil _) (au (.refl _) (au (.refl _) dA))))))))))))) dA) ?_
 refine ck 4 [3] [] [33] [] [.hp 33 0 [] 12 0 0] [some ⟨0,12,[.agg [str ([]),I (0),I (0),str ([]),I (0),I (0),I (0),str ([]),I (0),.isl true [],I (0),str ([])]]⟩] 49 (by kernel_rfl) ?_
 refine d8 33 [.agg [str ([]),I (0),I (0),str ([]),I (0),I (0),I (0),str ([]),I (0),.usl 4 (([]).map ao),I (0),str ([])]] rfl rfl (au (fi (au (.refl _) (au (.refl _) (au (.refl _) (au (.refl _) (au (.refl _) (au (.refl _) (au (.refl _) (au (.refl _) (au (.refl _) (au (.nil _) (au (.refl _) (au (.refl _) dA))))))))))))) dA) ?_
 refine ck 47 [23] [] [33] [] [aP a_1.When] [some ⟨1,12,[.agg [str a_1.Id,I a_1.Kind,I a_1.Party,str a_1.Action,I a_1.Other,I a_1.Amount,I (0),str ([]),I (0),.usl 4 (([]).map ao),I (0),str ([])]]⟩] 465 (by kernel_rfl) ?_
 obtain⟨r2,hr2,h⟩:=bS h
 refine oq 481 (.agg [I r2.Op,str r2.Name,I r2.Day,.hs 465 0 [] 4 0 (r2.Parts.map ao).length]) rfl (cP (UF hr2)) ?_
 refine cq 1 [25] [.hp 33 0 [] 12 0 6] 497 ?_
 refine o0 513 rfl rfl (gc rfl rfl (eP (path:=[]) (pl:=false) (e':=.agg [str a_1.Id,I a_1.Kind,I a_1.Party,str a_1.Action,I a_1.Other,I a_1.Amount,I r2.Op,str r2.Name,I r2.Day,.usl 4 (r2.Parts.map ao),I (0),str ([])]) (es2':=[.agg [str a_1.Id,I a_1.Kind,I a_1.Party,str a_1.Action,I a_1.Other,I a_1.Amount,I r2.Op,str r2.Name,I r2.Day,.usl 4 (r2.Parts.map ao),I (0),str ([])]]) rfl (ml (bI (ca rfl) (bI (ca rfl) (bI (ca rfl) (bI (cN rfl rfl) my))))) rfl rfl rfl aZ rfl rfl rfl rfl rfl dU 2 rfl)) ?_
 refine ck 18 [32] [] [33] [] [.agg [str a_1.Id,I a_1.Kind,I a_1.Party,str a_1.Action,I a_1.Other,I a_1.Amount,I r2.Op,str r2.Name,I r2.Day,.hs 33 2 [(0,9)] 4 0 (r2.Parts.map ao).length,I a_1.Within,str a_1.Repair]] [some ⟨2,12,[.agg [str a_1.Id,I a_1.Kind,I a_1.Party,str a_1.Action,I a_1.Other,I a_1.Amount,I r2.Op,str r2.Name,I r2.Day,.usl 4 (r2.Parts.map ao),I a_1.Within,str a_1.Repair]]⟩] 657 (by kernel_rfl) ?_
 refine o0 673 rfl rfl (gc rfl rfl (eP (path:=[]) (pl:=false) (e':=.agg [str a_1.Id,I a_1.Kind,I a_1.Party,str a_1.Action,I a_1.Other,I a_1.Amount,I r2.Op,str r2.Name,I r2.Day,.usl 4 (r2.Parts.map ao),I a_1.Within,str a_1.Repair]) (es2':=[.agg [str a_1.Id,I a_1.Kind,I a_1.Party,str a_1.Action,I a_1.Other,I a_1.Amount,I r2.Op,str r2.Name,I r2.Day,.usl 4 (r2.Parts.map ao),I a_1.Within,str a_1.Repair]]) rfl (ml (bI (ca rfl) (bI (ca rfl) (bI (ca rfl) (bI (ca rfl) (bI (ca rfl) (bI (ca rfl) (bI (ca rfl) (bI (ca rfl) (bI (ca rfl) (bI (fX (path:=[(0,9)]) rfl rfl (ez rfl rfl aZ) rfl (lD (path:=[]) (i:=0) (k:=9) (e':=.agg [str a_1.Id,I a_1.Kind,I a_1.Party,str a_1.Action,I a_1.Other,I a_1.Amount,I r2.Op,str r2.Name,I r2.Day,.dead,I a_1.Within,str a_1.Repair]) (es2':=[.agg [str a_1.Id,I a_1.Kind,I a_1.Party,str a_1.Action,I a_1.Other,I a_1.Amount,I r2.Op,str r2.Name,I r2.Day,.dead,I a_1.Within,str a_1.Repair]]) aZ rfl rfl rfl dU)) (bI (ca rfl) (bI (ca rfl) my))))))))))))) rfl rfl rfl aZ rfl rfl rfl rfl rfl dU 2 rfl)) ?_
 refine aq 1 ?_
 obtain rfl:=Option.some.inj h
 exact aj rfl ⟨_,fin (vs:=[.agg [str a_1.Id,I a_1.Kind,I a_1.Party,str a_1.Action,I a_1.Other,I a_1.Amount,I r2.Op,str r2.Name,I r2.Day,.hs 17 2 [(0,9)] 4 0 (r2.Parts.map ao).length,I a_1.Within,str a_1.Repair]]) (H3 (qj rfl rfl rfl) HD) (fB (ml (bI (ca rfl) (bI (ca rfl) (bI (ca rfl) (bI (ca rfl) (bI (ca rfl) (bI (ca rfl) (bI (ca rfl) (bI (ca rfl) (bI (ca rfl) (bI (fX (path:=[(0,9)]) rfl rfl (ez rfl rfl aZ) rfl (lD (path:=[]) (i:=0) (k:=9) (e':=.agg [str a_1.Id,I a_1.Kind,I a_1.Party,str a_1.Action,I a_1.Other,I a_1.Amount,I r2.Op,str r2.Name,I r2.Day,.dead,I a_1.Within,str a_1.Repair]) (es2':=[.agg [str a_1.Id,I a_1.Kind,I a_1.Party,str a_1.Action,I a_1.Other,I a_1.Amount,I r2.Op,str r2.Name,I r2.Day,.dead,I a_1.Within,str a_1.Repair]]) aZ rfl rfl rfl dU)) (bI (ca rfl) (bI (ca rfl) my))))))))))))) et) rfl (eZ fK),fD⟩
theorem Nz {G:Go.Ln.Ground}:aI Tryz.prog G 121 yf:=gT 1 0 (aD LZ bg) (Checked.mixed Tryz.checked) Tryz.func121 (fun a r h=>PH a r h)
def Ca:(List Clause)→List V:=oA (ew aa)
def Cm (r:(List Clause)):V×List V:=(.usl 12 (r.map aF),[])
noncomputable def yj:Ent:=aR [false] Ca Cm fun x=>xO x
theorem Vg {a_1:List Clause}{r}(h:xO a_1=some r):yj.F (Ca a_1)=some (Cm r):=aC (aB (bz cp)) h
noncomputable def Ok:Code:=az Tryz.f63
noncomputable def HZ:Env:=bF Tryz.prog [(121,yf)]
def LN (x:(List Clause))(r:(List Clause)):St→Prop:=QF HZ Tryz.f63 [false] (Ca x) (Cm r)
theorem Ik (a_1:List Clause):cd HZ 0 (LN a_1) (cL (cL (cR (cL (cR (cR Ok)))))) 0 (qV a_1) (fun u=>(sT 23 [(3,.hs 1 0 [] 12 0 (u.map aF).length)] [⟨0,12,u.map aF⟩] 2)) fun x3=>(sT 23 [(0,.isl false (a_1.map aa)),(3,.hs 1 0 [] 12 0 (x3.2.map aF).length),(4,I x3.1)] [⟨0,12,x3.2.map aF⟩] 2):=dT (wa a_1) fun {Q K} hK self ih x3 y h hr hn=>by
 unfold la at h
 refine cq 5 [8,9] [I x3.1,.isl false (a_1.map aa)] 34 ?_
 refine oq 50 (I (len a_1)) rfl (aX rfl rfl rfl (bc rfl)) ?_
 refine cq 2 [11] [B (decide (x3.1<(len a_1)))] 66 ?_
 refine sq h (fun h=>?_) fun h=>?_
 ·refine aq 1 ?_
  refine cq 7 [14,15,16,17] [.hs 1 0 [] 12 0 (x3.2.map aF).length,I x3.1,.isl false (a_1.map aa),I x3.1] 130 ?_
  obtain⟨e4,he4,h⟩:=bS h
  refine oq 146 (.iptr (aa e4) 0) rfl (ap rfl rfl rfl (aQ rfl rfl rfl rfl he4)) ?_
  refine cq 1 [19] [aa e4] 162 ?_
  obtain⟨r5,hr5,h⟩:=bS h
  refine oq 178 (.agg [str r5.Id,I r5.Kind,I r5.Party,str r5.Action,I r5.Other,I r5.Amount,I r5.When.Op,str r5.When.Name,I r5.When.Day,.hs 162 0 [] 4 0 (r5.When.Parts.map ao).length,I r5.Within,str r5.Repair]) rfl (cP (VA hr5)) ?_
  obtain⟨e6,he6,h⟩:=bS h
  refine oq 194 (.hp 1 0 [] 12 (0+Int.toNat x3.1) 0) rfl (ap rfl rfl rfl (gO (f:=aF) (xs:=x3.2) rfl rfl rfl he6)) ?_
  refine o0 210 rfl rfl (gc rfl rfl (eP (path:=[]) (pl:=false) (e':=.agg [str r5.Id,I r5.Kind,I r5.Party,str r5.Action,I r5.Other,I r5.Amount,I r5.When.Op,str r5.When.Name,I r5.When.Day,.usl 4 (r5.When.Parts.map ao),I r5.Within,str r5.Repair]) (es2':=(eu x3.2 x3.1 r5).map aF) rfl (ml (bI (ca rfl) (bI (ca rfl) (bI (ca rfl) (bI (ca rfl) (bI (ca rfl) (bI (ca rfl) (bI (ca rfl) (bI (ca rfl) (bI (ca rfl) (bI (cN rfl rfl) (bI (ca rfl) (bI (ca rfl) my))))))))))))) rfl rfl rfl aZ (fO (f:=aF) (xs:=x3.2) he6) rfl rfl rfl (lb (f:=aF) (xs:=x3.2) (y:=r5)) dU 1 rfl)) ?_
  try rw[←jf (f:=aF) (xs:=x3.2) (i:=x3.1) (z:=r5)]
  refine cq 7 [4] [I (ar (x3.1+1))] 258 ?_
  refine cG ?_
  exact rf [0,3,4] [1] (ih _ _ h hr hn :)
 ·refine aq 1 ?_
  exact rf [3] [1] (hn _ (Option.some.inj h).symm :) (hk:=hK)
theorem Rs (a_1:List Clause)(r:(List Clause))(h:xO a_1=some r):be HZ Tryz.f63 [false] 0 (Ca a_1) (Cm r):=by
 show Run _ _ (LN a_1 r) [.code Ok] _
 refine rI 23 [(0,.isl false (a_1.map aa))] [] 1 ?_
 unfold xO at h
 refine cq 7 [5] [.isl false (a_1.map aa)] 33 ?_
 refine oq 49 (I (len a_1)) rfl (aX rfl rfl rfl (bc rfl)) ?_
 obtain⟨m2,hm2,h⟩:=bS h
 refine oq 65 (.hs 49 0 [] 12 0 (m2.map aF).length) rfl (iM rfl rfl (Na (g:=aF) (f:=fun _=>(.agg [str ([]),I (0),I (0),str ([]),I (0),I (0),I (0),str ([]),I (0),.isl true [],I (0),str ([])]:V)) (z0:=(Clause.mk [] 0 0 [] 0 0 (Condition.mk 0 [] 0 []) 0 [])) rfl rfl rfl (by decide) hm2 rfl)) ?_
 refine d8 49 (m2.map aF) rfl rfl (Hu hm2 (fi (au (.refl _) (au (.refl _) (au (.refl _) (au (.refl _) (au (.refl _) (au (.refl _) (au (.refl _) (au (.refl _) (au (.refl _) (au (.nil _) (au (.refl _) (au (.refl _) dA)))))))))))))) ?_
 refine cq 8 [3,4] [.hs 49 0 [] 12 0 (m2.map aF).length,I (0)] 97 ?_
 obtain⟨y7,hy7,hy71,hy72⟩:=bJ h
 refine bG rfl ?_
 refine rf [0,3,4] [49] (Ik a_1 rfl (0,m2) _ hy7 (fun r' e st hq=>by rw[hy71 r' e] at hq;exact hq) fun u7 hu=>?_)
 replace h:=hy72 u7 hu
 refine cq 5 [2] [.hs 1 0 [] 12 0 (u7.map aF).length] 34 ?_
 obtain rfl:=Option.some.inj h
 exact aj rfl ⟨_,fin (vs:=[.hs 1 0 [] 12 0 (u7.map aF).length]) rfl (fB (fk rfl (cN rfl rfl)) et) rfl (eZ fK),fD⟩
theorem OB {G:Go.Ln.Ground}:aI Tryz.prog G 63 yj:=gT 1 0 (aD Nz bg) (Checked.mixed Tryz.checked) Tryz.func63 (fun a r h=>Rs a r h)
def Bg:Contract→List V:=oA aG
def Ak (r:Contract):V×List V:=(.agg [.usl 1 (r.Parties.map str),.usl 12 (r.Clauses.map aF)],[])
noncomputable def xk:Ent:=aR [false] Bg Ak fun x=>sd x
theorem tz {a_1:Contract}{r}(h:sd a_1=some r):xk.F (Bg a_1)=some (Ak r):=aC (aB aV) h
noncomputable def Uo:Code:=az Tryz.f18
noncomputable def ND:Env:=bF Tryz.prog [(62,sC),(63,yj)]
def Um (x:Contract)(r:Contract):St→Prop:=QF ND Tryz.f18 [false] (Bg x) (Ak r)
theorem R1 (a_1:Contract)(r:Contract)(h:sd a_1=some r):be ND Tryz.f18 [false] 0 (Bg a_1) (Ak r):=by
 show Run _ _ (Um a_1 r) [.code Uo] _
 refine rI 13 [(0,aG a_1)] [] 1 ?_
 unfold sd at h
 refine ck 4 [1,2] [] [1,17] [] [.hp 1 0 [] 2 0 0,.hp 17 0 [] 2 0 0] [some ⟨0,2,[aG a_1]⟩,some ⟨0,2,[.agg [.isl true [],.isl true []]]⟩] 33 (by kernel_rfl) ?_
 refine d8 17 [.agg [.usl 1 (([]).map str),.usl 12 (([]).map aF)]] rfl rfl (au (fi (au (.nil _) (au (.nil _) dA))) dA) ?_
 refine ck 4 [3] [] [33] [] [.hp 33 0 [] 2 0 0] [some ⟨0,2,[.agg [.isl true [],.isl true []]]⟩] 49 (by kernel_rfl) ?_
 refine d8 33 [.agg [.usl 1 (([]).map str),.usl 12 (([]).map aF)]] rfl rfl (au (fi (au (.nil _) (au (.nil _) dA))) dA) ?_
 refine cq 5 [5] [.isl false (a_1.Parties.map str)] 81 ?_
 obtain⟨r2,hr2,h⟩:=bS h
 refine oq 97 (.hs 81 0 [] 1 0 (r2.map str).length) rfl (cP (OE hr2)) ?_
 refine cq 1 [7] [.hp 33 0 [] 2 0 0] 113 ?_
 refine o0 129 rfl rfl (gc rfl rfl (eP (path:=[]) (pl:=false) (e':=.agg [.usl 1 (r2.map str),.usl 12 (([]).map aF)]) (es2':=[.agg [.usl 1 (r2.map str),.usl 12 (([]).map aF)]]) rfl (fk rfl (cN rfl rfl)) rfl rfl rfl aZ rfl rfl rfl rfl rfl dU 2 rfl)) ?_
 refine cq 5 [9] [.isl false (a_1.Clauses.map aa)] 161 ?_
 obtain⟨r3,hr3,h⟩:=bS h
 refine oq 177 (.hs 161 0 [] 12 0 (r3.map aF).length) rfl (cP (Vg hr3)) ?_
 refine cq 1 [11] [.hp 33 0 [] 2 0 1] 193 ?_
 refine o0 209 rfl rfl (gc rfl rfl (eP (path:=[]) (pl:=false) (e':=.agg [.usl 1 (r2.map str),.usl 12 (r3.map aF)]) (es2':=[.agg [.usl 1 (r2.map str),.usl 12 (r3.map aF)]]) rfl (fk rfl (cN rfl rfl)) rfl rfl rfl aZ rfl rfl rfl rfl rfl dU 3 rfl)) ?_
 refine cq 4 [12] [.agg [.hs 33 3 [(0,0)] 1 0 (r2.map str).length,.hs 33 3 [(0,1)] 12 0 (r3.map aF).length]] 225 ?_
 refine o0 241 rfl rfl (gc rfl rfl (eP (path:=[]) (pl:=false) (e':=.agg [.usl 1 (r2.map str),.usl 12 (r3.map aF)]) (es2':=[.agg [.usl 1 (r2.map str),.usl 12 (r3.map aF)]]) rfl (ml (bI (fX (path:=[(0,0)]) rfl rfl (ez rfl rfl aZ) rfl (lD (path:=[]) (i:=0) (k:=0) (e':=.agg [.dead,.usl 12 (r3.map aF)]) (es2':=[.agg [.dead,.usl 12 (r3.map aF)]]) aZ rfl rfl rfl dU)) (bI (fX (path:=[(0,1)]) rfl rfl (ez rfl rfl aZ) rfl (lD (path:=[]) (i:=0) (k:=1) (e':=.agg [.dead,.dead]) (es2':=[.agg [.dead,.dead]]) aZ rfl rfl rfl dU)) my))) rfl rfl rfl aZ rfl rfl rfl rfl rfl dU 2 rfl)) ?_
 refine aq 1 ?_
 obtain rfl:=Option.some.inj h
 exact aj rfl ⟨_,fin (vs:=[.agg [.hs 17 2 [(0,0)] 1 0 (r2.map str).length,.hs 17 2 [(0,1)] 12 0 (r3.map aF).length]]) (H3 (qj rfl rfl rfl) HD) (fB (ml (bI (fX (path:=[(0,0)]) rfl rfl (ez rfl rfl aZ) rfl (lD (path:=[]) (i:=0) (k:=0) (e':=.agg [.dead,.usl 12 (r3.map aF)]) (es2':=[.agg [.dead,.usl 12 (r3.map aF)]]) aZ rfl rfl rfl dU)) (bI (fX (path:=[(0,1)]) rfl rfl (ez rfl rfl aZ) rfl (lD (path:=[]) (i:=0) (k:=1) (e':=.agg [.dead,.dead]) (es2':=[.agg [.dead,.dead]]) aZ rfl rfl rfl dU)) my))) et) rfl (eZ fK),fD⟩
theorem L6 {G:Go.Ln.Ground}:aI Tryz.prog G 18 xk:=gT 1 0 (aD Ep (aD OB bg)) (Checked.mixed Tryz.checked) Tryz.func18 (fun a r h=>R1 a r h)
def Ai:Duty→List V:=oA ah
def BU (r:Duty):V×List V:=(ah r,[])
noncomputable def yL:Ent:=aR [false] Ai BU fun x=>sW x
theorem V8 {a_1:Duty}{r}(h:sW a_1=some r):yL.F (Ai a_1)=some (BU r):=aC (aB cZ) h
noncomputable def Vu:Code:=az Tryz.f122
noncomputable def LA:Env:=bF Tryz.prog []
def UE (x:Duty)(r:Duty):St→Prop:=QF LA Tryz.f122 [false] (Ai x) (BU r)
theorem PO (a_1:Duty)(r:Duty)(h:sW a_1=some r):be LA Tryz.f122 [false] 0 (Ai a_1) (BU r):=by
 show Run _ _ (UE a_1 r) [.code Vu] _
 refine rI 17 [(0,ah a_1)] [] 1 ?_
 unfold sW at h
 refine ck 42 [2] [] [17] [] [.hp 17 0 [] 4 0 0] [some ⟨0,4,[ah a_1]⟩] 337 (by kernel_rfl) ?_
 obtain rfl:=Option.some.inj h
 exact aj rfl ⟨_,fin (vs:=[ah a_1]) (H3 (qj rfl rfl rfl) HD) (fB (eD rfl) et) rfl (eZ fK),fD⟩
theorem MT {G:Go.Ln.Ground}:aI Tryz.prog G 122 yL:=gT 1 0 bg (Checked.mixed Tryz.checked) Tryz.func122 (fun a r h=>PO a r h)
def Cr:(List Duty)→List V:=oA (ew ah)
def zM (r:(List Duty)):V×List V:=(.usl 4 (r.map ah),[])
noncomputable def wO:Ent:=aR [false] Cr zM fun x=>xC x
theorem U8 {a_1:List Duty}{r}(h:xC a_1=some r):wO.F (Cr a_1)=some (zM r):=aC (aB (bz cZ)) h
noncomputable def N1:Code:=az Tryz.f64
noncomputable def F7:Env:=bF Tryz.prog [(122,yL)]
def Oe (x:(List Duty))(r:(List Duty)):St→Prop:=QF F7 Tryz.f64 [false] (Cr x) (zM r)
theorem Ic (a_1:List Duty):cd F7 0 (Oe a_1) (cL (cL (cR (cL (cR (cR N1)))))) 0 (qX a_1) (fun u=>(sT 23 [(3,.hs 1 0 [] 4 0 (u.map ah).length)] [⟨0,4,u.map ah⟩] 2)) fun x3=>(sT 23 [(0,.isl false (a_1.map ah)),(3,.hs 1 0 [] 4 0 (x3.2.map ah).length),(4,I x3.1)] [⟨0,4,x3.2.map ah⟩] 2):=dT (vM a_1) fun {Q K} hK self ih x3 y h hr hn=>by
 unfold lg at h
 refine cq 5 [8,9] [I x3.1,.isl false (a_1.map ah)] 34 ?_
 refine oq 50 (I (len a_1)) rfl (aX rfl rfl rfl (bc rfl)) ?_
 refine cq 2 [11] [B (decide (x3.1<(len a_1)))] 66 ?_
 refine sq h (fun h=>?_) fun h=>?_
 ·refine aq 1 ?_
  refine cq 7 [14,15,16,17] [.hs 1 0 [] 4 0 (x3.2.map ah).length,I x3.1,.isl false (a_1.map ah),I x3.1] 130 ?_
  obtain⟨e4,he4,h⟩:=bS h
  refine oq 146 (.iptr (ah e4) 0) rfl (ap rfl rfl rfl (aQ rfl rfl rfl rfl he4)) ?_
  refine cq 1 [19] [ah e4] 162 ?_
  obtain⟨r5,hr5,h⟩:=bS h
  refine oq 178 (ah r5) rfl (cP (V8 hr5)) ?_
  obtain⟨e6,he6,h⟩:=bS h
  refine oq 194 (.hp 1 0 [] 4 (0+Int.toNat x3.1) 0) rfl (ap rfl rfl rfl (gO (f:=ah) (xs:=x3.2) rfl rfl rfl he6)) ?_
  refine o0 210 rfl rfl (gc rfl rfl (eP (path:=[]) (pl:=true) (e':=ah r5) (es2':=(eu x3.2 x3.1 r5).map ah) rfl (eD rfl) rfl rfl rfl aZ (fO (f:=ah) (xs:=x3.2) he6) rfl rfl rfl (lb (f:=ah) (xs:=x3.2) (y:=r5)) dU 0 rfl)) ?_
  try rw[←jf (f:=ah) (xs:=x3.2) (i:=x3.1) (z:=r5)]
  refine cq 7 [4] [I (ar (x3.1+1))] 258 ?_
  refine cG ?_
  exact rf [0,3,4] [1] (ih _ _ h hr hn :)
 ·refine aq 1 ?_
  exact rf [3] [1] (hn _ (Option.some.inj h).symm :) (hk:=hK)
theorem Pu (a_1:List Duty)(r:(List Duty))(h:xC a_1=some r):be F7 Tryz.f64 [false] 0 (Cr a_1) (zM r):=by
 show Run _ _ (Oe a_1 r) [.code N1] _
 refine rI 23 [(0,.isl false (a_1.map ah))] [] 1 ?_
 unfold xC at h
 refine cq 7 [5] [.isl false (a_1.map ah)] 33 ?_
 refine oq 49 (I (len a_1)) rfl (aX rfl rfl rfl (bc rfl)) ?_
 obtain⟨m2,hm2,h⟩:=bS h
 refine oq 65 (.hs 49 0 [] 4 0 (m2.map ah).length) rfl (iM rfl rfl (Ah (f:=ah) rfl rfl rfl (by decide) hm2 rfl)) ?_
 refine cq 8 [3,4] [.hs 49 0 [] 4 0 (m2.map ah).length,I (0)] 97 ?_
 obtain⟨y7,hy7,hy71,hy72⟩:=bJ h
 refine bG rfl ?_
 refine rf [0,3,4] [49] (Ic a_1 rfl (0,m2) _ hy7 (fun r' e st hq=>by rw[hy71 r' e] at hq;exact hq) fun u7 hu=>?_)
 replace h:=hy72 u7 hu
 refine cq 5 [2] [.hs 1 0 [] 4 0 (u7.map ah).length] 34 ?_
 obtain rfl:=Option.some.inj h
 exact aj rfl ⟨_,fin (vs:=[.hs 1 0 [] 4 0 (u7.map ah).length]) rfl (fB (fk rfl (cN rfl rfl)) et) rfl (eZ fK),fD⟩
theorem OO {G:Go.Ln.Ground}:aI Tryz.prog G 64 wO:=gT 1 0 (aD MT bg) (Checked.mixed Tryz.checked) Tryz.func64 (fun a r h=>Pu a r h)
def Ao:(List Int)→List V:=oA (ew I)
def Bx (r:(List Int)):V×List V:=(.usl 1 (r.map I),[])
noncomputable def xT:Ent:=aR [false] Ao Bx fun x=>wM x
theorem UD {a_1:List Int}{r}(h:wM a_1=some r):xT.F (Ao a_1)=some (Bx r):=aC (aB (bz bO)) h
noncomputable def LV:Code:=az Tryz.f26
noncomputable def F9:Env:=bF Tryz.prog []
def Pn (x:(List Int))(r:(List Int)):St→Prop:=QF F9 Tryz.f26 [false] (Ao x) (Bx r)
theorem IP (a_1:List Int):cd F9 0 (Pn a_1) (cL (cL (cR (cL (cR (cR LV)))))) 0 (qS a_1) (fun u=>(sT 22 [(3,.hs 1 0 [] 1 0 (u.map I).length)] [⟨0,1,u.map I⟩] 2)) fun x3=>(sT 22 [(0,.isl false (a_1.map I)),(3,.hs 1 0 [] 1 0 (x3.2.map I).length),(4,I x3.1)] [⟨0,1,x3.2.map I⟩] 2):=dT (vT a_1) fun {Q K} hK self ih x3 y h hr hn=>by
 unfold kX at h
 refine cq 5 [8,9] [I x3.1,.isl false (a_1.map I)] 34 ?_
 refine oq 50 (I (len a_1)) rfl (aX rfl rfl rfl (bc rfl)) ?_
 refine cq 2 [11] [B (decide (x3.1<(len a_1)))] 66 ?_
 refine sq h (fun h=>?_) fun h=>?_
 ·refine aq 1 ?_
  refine cq 7 [14,15,16,17] [.hs 1 0 [] 1 0 (x3.2.map I).length,I x3.1,.isl false (a_1.map I),I x3.1] 130 ?_
  obtain⟨e4,he4,h⟩:=bS h
  refine oq 146 (.iptr (I e4) 0) rfl (ap rfl rfl rfl (aQ rfl rfl rfl rfl he4)) ?_
  refine cq 1 [19] [I e4] 162 ?_
  obtain⟨e5,he5,h⟩:=bS h
  refine oq 178 (.hp 1 0 [] 1 (0+Int.toNat x3.1) 0) rfl (ap rfl rfl rfl (gO (f:=I) (xs:=x3.2) rfl rfl rfl he5)) ?_
  refine o0 194 rfl rfl (gc rfl rfl (eP (path:=[]) (pl:=true) (e':=I e4) (es2':=(eu x3.2 x3.1 e4).map I) rfl (eD rfl) rfl rfl rfl aZ (fO (f:=I) (xs:=x3.2) he5) rfl rfl rfl (lb (f:=I) (xs:=x3.2) (y:=e4)) dU 0 rfl)) ?_
  try rw[←jf (f:=I) (xs:=x3.2) (i:=x3.1) (z:=e4)]
  refine cq 7 [4] [I (ar (x3.1+1))] 242 ?_
  refine cG ?_
  exact rf [0,3,4] [1] (ih _ _ h hr hn :)
 ·refine aq 1 ?_
  exact rf [3] [1] (hn _ (Option.some.inj h).symm :) (hk:=hK)
theorem P7 (a_1:List Int)(r:(List Int))(h:wM a_1=some r):be F9 Tryz.f26 [false] 0 (Ao a_1) (Bx r):=by
 show Run _ _ (Pn a_1 r) [.code LV] _
 refine rI 22 [(0,.isl false (a_1.map I))] [] 1 ?_
 unfold wM at h
 refine cq 7 [5] [.isl false (a_1.map I)] 33 ?_
 refine oq 49 (I (len a_1)) rfl (aX rfl rfl rfl (bc rfl)) ?_
 obtain⟨m2,hm2,h⟩:=bS h
 refine oq 65 (.hs 49 0 [] 1 0 (m2.map I).length) rfl (iM rfl rfl (Ah (f:=I) rfl rfl rfl (by decide) hm2 rfl)) ?_
 refine cq 8 [3,4] [.hs 49 0 [] 1 0 (m2.map I).length,I (0)] 97 ?_
 obtain⟨y6,hy6,hy61,hy62⟩:=bJ h
 refine bG rfl ?_
 refine rf [0,3,4] [49] (IP a_1 rfl (0,m2) _ hy6 (fun r' e st hq=>by rw[hy61 r' e] at hq;exact hq) fun u6 hu=>?_)
 replace h:=hy62 u6 hu
 refine cq 5 [2] [.hs 1 0 [] 1 0 (u6.map I).length] 34 ?_
 obtain rfl:=Option.some.inj h
 exact aj rfl ⟨_,fin (vs:=[.hs 1 0 [] 1 0 (u6.map I).length]) rfl (fB (fk rfl (cN rfl rfl)) et) rfl (eZ fK),fD⟩
theorem Lz {G:Go.Ln.Ground}:aI Tryz.prog G 26 xT:=gT 1 0 bg (Checked.mixed Tryz.checked) Tryz.func26 (fun a r h=>P7 a r h)
def Cj:State→List V:=oA bX
def CG (r:State):V×List V:=(.agg [I r.Day,.usl 1 (r.Facts.map str),.usl 4 (r.Duties.map ah),.usl 1 (r.Balances.map I),B r.Over],[])
noncomputable def wK:Ent:=aR [false] Cj CG fun x=>sr x
theorem tw {a_1:State}{r}(h:sr a_1=some r):wK.F (Cj a_1)=some (CG r):=aC (aB cY) h
noncomputable def UM:Code:=az Tryz.f19
noncomputable def Ny:Env:=bF Tryz.prog [(62,sC),(64,wO),(26,xT)]
def Vo (x:State)(r:State):St→Prop:=QF Ny Tryz.f19 [false] (Cj x) (CG r)
theorem Q5 (a_1:State)(r:State)(h:sr a_1=some r):be Ny Tryz.f19 [false] 0 (Cj a_1) (CG r):=by
 show Run _ _ (Vo a_1 r) [.code UM] _
 refine rI 23 [(0,bX a_1)] [] 1 ?_
 unfold sr at h
 refine ck 4 [1,2] [] [1,17] [] [.hp 1 0 [] 5 0 0,.hp 17 0 [] 5 0 0] [some ⟨0,5,[bX a_1]⟩,some ⟨0,5,[.agg [I (0),.isl true [],.isl true [],.isl true [],B false]]⟩] 33 (by kernel_rfl) ?_
 refine d8 17 [.agg [I (0),.usl 1 (([]).map str),.usl 4 (([]).map ah),.usl 1 (([]).map I),B false]] rfl rfl (au (fi (au (.refl _) (au (.nil _) (au (.nil _) (au (.nil _) (au (.refl _) dA)))))) dA) ?_
 refine ck 4 [3] [] [33] [] [.hp 33 0 [] 5 0 0] [some ⟨0,5,[.agg [I (0),.isl true [],.isl true [],.isl true [],B false]]⟩] 49 (by kernel_rfl) ?_
 refine d8 33 [.agg [I (0),.usl 1 (([]).map str),.usl 4 (([]).map ah),.usl 1 (([]).map I),B false]] rfl rfl (au (fi (au (.refl _) (au (.nil _) (au (.nil _) (au (.nil _) (au (.refl _) dA)))))) dA) ?_
 refine ck 12 [8] [] [33] [] [.isl false (a_1.Facts.map str)] [some ⟨1,5,[.agg [I a_1.Day,.usl 1 (([]).map str),.usl 4 (([]).map ah),.usl 1 (([]).map I),B false]]⟩] 145 (by kernel_rfl) ?_
 obtain⟨r2,hr2,h⟩:=bS h
 refine oq 161 (.hs 145 0 [] 1 0 (r2.map str).length) rfl (cP (OE hr2)) ?_
 refine cq 1 [10] [.hp 33 0 [] 5 0 1] 177 ?_
 refine o0 193 rfl rfl (gc rfl rfl (eP (path:=[]) (pl:=false) (e':=.agg [I a_1.Day,.usl 1 (r2.map str),.usl 4 (([]).map ah),.usl 1 (([]).map I),B false]) (es2':=[.agg [I a_1.Day,.usl 1 (r2.map str),.usl 4 (([]).map ah),.usl 1 (([]).map I),B false]]) rfl (fk rfl (cN rfl rfl)) rfl rfl rfl aZ rfl rfl rfl rfl rfl dU 2 rfl)) ?_
 refine cq 5 [12] [.isl false (a_1.Duties.map ah)] 225 ?_
 obtain⟨r3,hr3,h⟩:=bS h
 refine oq 241 (.hs 225 0 [] 4 0 (r3.map ah).length) rfl (cP (U8 hr3)) ?_
 refine cq 1 [14] [.hp 33 0 [] 5 0 2] 257 ?_
 refine o0 273 rfl rfl (gc rfl rfl (eP (path:=[]) (pl:=false) (e':=.agg [I a_1.Day,.usl 1 (r2.map str),.usl 4 (r3.map ah),.usl 1 (([]).map I),B false]) (es2':=[.agg [I a_1.Day,.usl 1 (r2.map str),.usl 4 (r3.map ah),.usl 1 (([]).map I),B false]]) rfl (fk rfl (cN rfl rfl)) rfl rfl rfl aZ rfl rfl rfl rfl rfl dU 3 rfl)) ?_
 refine cq 5 [16] [.isl false (a_1.Balances.map I)] 305 ?_
 obtain⟨r4,hr4,h⟩:=bS h
 refine oq 321 (.hs 305 0 [] 1 0 (r4.map I).length) rfl (cP (UD hr4)) ?_
 refine cq 1 [18] [.hp 33 0 [] 5 0 3] 337 ?_
 refine o0 353 rfl rfl (gc rfl rfl (eP (path:=[]) (pl:=false) (e':=.agg [I a_1.Day,.usl 1 (r2.map str),.usl 4 (r3.map ah),.usl 1 (r4.map I),B false]) (es2':=[.agg [I a_1.Day,.usl 1 (r2.map str),.usl 4 (r3.map ah),.usl 1 (r4.map I),B false]]) rfl (fk rfl (cN rfl rfl)) rfl rfl rfl aZ rfl rfl rfl rfl rfl dU 4 rfl)) ?_
 refine ck 11 [22] [] [33] [] [.agg [I a_1.Day,.hs 33 4 [(0,1)] 1 0 (r2.map str).length,.hs 33 4 [(0,2)] 4 0 (r3.map ah).length,.hs 33 4 [(0,3)] 1 0 (r4.map I).length,B a_1.Over]] [some ⟨4,5,[.agg [I a_1.Day,.usl 1 (r2.map str),.usl 4 (r3.map ah),.usl 1 (r4.map I),B a_1.Over]]⟩] 433 (by kernel_rfl) ?_
 refine o0 449 rfl rfl (gc rfl rfl (eP (path:=[]) (pl:=false) (e':=.agg [I a_1.Day,.usl 1 (r2.map str),.usl 4 (r3.map ah),.usl 1 (r4.map I),B a_1.Over]) (es2':=[.agg [I a_1.Day,.usl 1 (r2.map str),.usl 4 (r3.map ah),.usl 1 (r4.map I),B a_1.Over]]) rfl (ml (bI (ca rfl) (bI (fX (path:=[(0,1)]) rfl rfl (ez rfl rfl aZ) rfl (lD (path:=[]) (i:=0) (k:=1) (e':=.agg [I a_1.Day,.dead,.usl 4 (r3.map ah),.usl 1 (r4.map I),B a_1.Over]) (es2':=[.agg [I a_1.Day,.dead,.usl 4 (r3.map ah),.usl 1 (r4.map I),B a_1.Over]]) aZ rfl rfl rfl dU)) (bI (fX (path:=[(0,2)]) rfl rfl (ez rfl rfl aZ) rfl (lD (path:=[]) (i:=0) (k:=2) (e':=.agg [I a_1.Day,.dead,.dead,.usl 1 (r4.map I),B a_1.Over]) (es2':=[.agg [I a_1.Day,.dead,.dead,.usl 1 (r4.map I),B a_1.Over]]) aZ rfl rfl rfl dU)) (bI (fX (path:=[(0,3)]) rfl rfl (ez rfl rfl aZ) rfl (lD (path:=[]) (i:=0) (k:=3) (e':=.agg [I a_1.Day,.dead,.dead,.dead,B a_1.Over]) (es2':=[.agg [I a_1.Day,.dead,.dead,.dead,B a_1.Over]]) aZ rfl rfl rfl dU)) (bI (ca rfl) my)))))) rfl rfl rfl aZ rfl rfl rfl rfl rfl dU 2 rfl)) ?_
 refine aq 1 ?_
 obtain rfl:=Option.some.inj h
 exact aj rfl ⟨_,fin (vs:=[.agg [I a_1.Day,.hs 17 2 [(0,1)] 1 0 (r2.map str).length,.hs 17 2 [(0,2)] 4 0 (r3.map ah).length,.hs 17 2 [(0,3)] 1 0 (r4.map I).length,B a_1.Over]]) (H3 (qj rfl rfl rfl) HD) (fB (ml (bI (ca rfl) (bI (fX (path:=[(0,1)]) rfl rfl (ez rfl rfl aZ) rfl (lD (path:=[]) (i:=0) (k:=1) (e':=.agg [I a_1.Day,.dead,.usl 4 (r3.map ah),.usl 1 (r4.map I),B a_1.Over]) (es2':=[.agg [I a_1.Day,.dead,.usl 4 (r3.map ah),.usl 1 (r4.map I),B a_1.Over]]) aZ rfl rfl rfl dU)) (bI (fX (path:=[(0,2)]) rfl rfl (ez rfl rfl aZ) rfl (lD (path:=[]) (i:=0) (k:=2) (e':=.agg [I a_1.Day,.dead,.dead,.usl 1 (r4.map I),B a_1.Over]) (es2':=[.agg [I a_1.Day,.dead,.dead,.usl 1 (r4.map I),B a_1.Over]]) aZ rfl rfl rfl dU)) (bI (fX (path:=[(0,3)]) rfl rfl (ez rfl rfl aZ) rfl (lD (path:=[]) (i:=0) (k:=3) (e':=.agg [I a_1.Day,.dead,.dead,.dead,B a_1.Over]) (es2':=[.agg [I a_1.Day,.dead,.dead,.dead,B a_1.Over]]) aZ rfl rfl rfl dU)) (bI (ca rfl) my)))))) et) rfl (eZ fK),fD⟩
theorem Nn {G:Go.Ln.Ground}:aI Tryz.prog G 19 wK:=gT 1 0 (aD Ep (aD OO (aD Lz bg))) (Checked.mixed Tryz.checked) Tryz.func19 (fun a r h=>Q5 a r h)
def mF:(Int×Int×Int)→List V:=cA I (cA I (oA I))
def mG (r:Bool):V×List V:=(B r,[])
noncomputable def ef:Ent:=aR [false,false,false] mF mG fun x=>cU x.1 x.2.1 x.2.2
theorem cW {x_1:Int}{a_2:Int}{b_3:Int}{r}(h:cU x_1 a_2 b_3=some r):ef.F (mF (x_1,a_2,b_3))=some (mG r):=aC (aY bO (aY bO (aB bO))) h
noncomputable def vw:Code:=az Tryz.f73
noncomputable def pG:Env:=bF Tryz.prog []
def wd (x:Int×Int×Int)(r:Bool):St→Prop:=QF pG Tryz.f73 [false,false,false] (mF x) (mG r)
theorem ET (x_1:Int)(a_2:Int)(b_3:Int)(r:Bool)(h:cU x_1 a_2 b_3=some r):be pG Tryz.f73 [false,false,false] 0 (mF (x_1,a_2,b_3)) (mG r):=by
 show Run _ _ (wd (x_1,a_2,b_3) r) [.code vw] _
 refine rI 15 [(0,I x_1),(1,I a_2),(2,I b_3)] [] 1 ?_
 unfold cU at h
 refine cq 10 [10] [B (decide (x_1≥a_2))] 81 ?_
 obtain⟨u4,hu4,h⟩:=lJ h
 have j4:Run pG 0 (wd (x_1,a_2,b_3) r) (.code (cR (cR vw))::[]) (sT 15 [(6,B u4)] [] 1):=by
  obtain rfl:=Option.some.inj h
  exact aj rfl (qp [B u4])
 replace h:=hu4
 clear hu4
 refine sp 10 h rfl (fun h=>?_) fun h=>?_
 ·refine cq 6 [6] [B (decide (x_1≤b_3))] 161 ?_
  subst h
  exact rf [6] [] (j4 :)
 ·refine cq 6 [6] [B false] 161 ?_
  subst h
  exact rf [6] [] (j4 :)
theorem eU {G:Go.Ln.Ground}:aI Tryz.prog G 73 ef:=gT 3 0 bg (Checked.mixed Tryz.checked) Tryz.func73 (fun a r h=>ET a.1 a.2.1 a.2.2 r h)
def C1:Int→List V:=oA (V.int .u8)
def A9 (r:Bool):V×List V:=(B r,[])
noncomputable def xn:Ent:=aR [false] C1 A9 fun x=>tg x
theorem UI {b_1:Int}{r}(h:tg b_1=some r):xn.F (C1 b_1)=some (A9 r):=aC (aB (HO (k:=.u8))) h
noncomputable def uA:Code:=az Tryz.f200
noncomputable def pV:Env:=bF Tryz.prog []
def ur (x:Int)(r:Bool):St→Prop:=QF pV Tryz.f200 [false] (C1 x) (A9 r)
theorem QG (b_1:Int)(r:Bool)(h:tg b_1=some r):be pV Tryz.f200 [false] 0 (C1 b_1) (A9 r):=by
 show Run _ _ (ur b_1 r) [.code uA] _
 refine rI 17 [(0,.int .u8 b_1)] [] 1 ?_
 unfold tg at h
 refine cq 9 [5] [B (decide (b_1≥97))] 65 ?_
 obtain⟨u2,hu2,h⟩:=lJ h
 have j2:Run pV 0 (ur b_1 r) (.code (cR (cR uA))::[]) (sT 17 [(2,B u2)] [] 1):=by
  obtain rfl:=Option.some.inj h
  exact aj rfl (qp [B u2])
 replace h:=hu2
 clear hu2
 refine sp 5 h rfl (fun h=>?_) fun h=>?_
 ·refine cq 4 [9] [B (decide (b_1≤122))] 129 ?_
  obtain⟨u3,hu3,h⟩:=lJ h
  have j3:Run pV 0 (ur b_1 r) (.code (cR (cR uA))::[]) (sT 17 [(2,B u3)] [] 1):=by
   subst h
   exact rf [2] [] (j2 :)
  replace h:=hu3
  clear hu3
  refine sp 9 h rfl (fun h=>?_) fun h=>?_
  ·refine cq 9 [2] [B true] 257 ?_
   subst h
   exact rf [2] [] (j3 :)
  ·refine cq 3 [12] [B (decide (b_1≥48))] 177 ?_
   obtain⟨u4,hu4,h⟩:=lJ h
   have j4:Run pV 0 (ur b_1 r) (.code (cR (cR uA))::[]) (sT 17 [(2,B u4)] [] 1):=by
    subst h
    exact rf [2] [] (j3 :)
   replace h:=hu4
   clear hu4
   refine sp 12 h rfl (fun h=>?_) fun h=>?_
   ·refine cq 6 [2] [B (decide (b_1≤57))] 257 ?_
    subst h
    exact rf [2] [] (j4 :)
   ·refine cq 6 [2] [B false] 257 ?_
    subst h
    exact rf [2] [] (j4 :)
 ·refine cq 7 [9,12] [B false,B (decide (b_1≥48))] 177 ?_
  obtain⟨u5,hu5,h⟩:=lJ h
  have j5:Run pV 0 (ur b_1 r) (.code (cR (cR uA))::[]) (sT 17 [(2,B u5)] [] 1):=by
   subst h
   exact rf [2] [] (j2 :)
  replace h:=hu5
  clear hu5
  refine sp 12 h rfl (fun h=>?_) fun h=>?_
  ·refine cq 6 [2] [B (decide (b_1≤57))] 257 ?_
   subst h
   exact rf [2] [] (j5 :)
  ·refine cq 6 [2] [B false] 257 ?_
   subst h
   exact rf [2] [] (j5 :)
theorem Pr {G:Go.Ln.Ground}:aI Tryz.prog G 200 xn:=gT 1 0 bg (Checked.mixed Tryz.checked) Tryz.func200 (fun a r h=>QG a r h)
def BO:ae→List V:=oA str
def zP (r:Bool):V×List V:=(B r,[])
noncomputable def mu:Ent:=aR [false] BO zP fun x=>oQ x
theorem ou {s_1:ae}{r}(h:oQ s_1=some r):mu.F (BO s_1)=some (zP r):=aC (aB bm) h
noncomputable def ng:Code:=az Tryz.f157
noncomputable abbrev kF:Code:=cR (cR (cR (cR ng)))
noncomputable abbrev kM:Code:=cR (cL (cR (cL (cR (cR (cR ng))))))
noncomputable def gS:Env:=bF Tryz.prog [(73,ef),(200,xn)]
def fH (x:ae)(r:Bool):St→Prop:=QF gS Tryz.f157 [false] (BO x) (zP r)
theorem IH (s_1:ae):cd gS 0 (fH s_1) (cL (cL (cR (cL (cR (cR ng)))))) 0 (qH s_1) (fun u=>(sT 40 [(0,str s_1)] [] 1)) fun x4=>(sT 40 [(0,str s_1),(3,I x4)] [] 1):=dT (vr s_1) fun {Q K} hK self ih x4 y h hr hn=>by
 unfold ls at h
 refine cq 8 [21] [B (decide (x4<(len s_1)))] 65 ?_
 refine sq h (fun h=>?_) fun h=>?_
 ·refine aq 1 ?_
  refine cq 6 [24,25] [str s_1,I x4] 97 ?_
  obtain⟨c5,hc5,h⟩:=bS h
  refine oq 113 (.int .u8 (c5.toNat:Int)) rfl (kR rfl rfl (px rfl rfl hc5)) ?_
  obtain⟨r6,hr6,h⟩:=bS h
  refine oq 129 (B r6) rfl (cP (UI hr6)) ?_
  refine cq 2 [28] [B (!r6)] 145 ?_
  refine sq h (fun h=>?_) fun h=>?_
  ·refine cq 4 [2] [B false] 161 ?_
   exact aj rfl (hr _ (Option.some.inj h).symm _ (qp [B false]))
  ·refine aq 1 ?_
   refine cq 6 [3] [I (ar (x4+1))] 193 ?_
   refine cG ?_
   exact rf [0,3] [] (ih _ _ h hr hn :)
 ·refine aq 1 ?_
  exact rf [0] [] (hn _ (Option.some.inj h).symm :) (hk:=hK)
theorem PL (s_1:ae)(r:Bool)(h:oQ s_1=some r):be gS Tryz.f157 [false] 0 (BO s_1) (zP r):=by
 show Run _ _ (fH s_1 r) [.code ng] _
 refine rI 40 [(0,str s_1)] [] 1 ?_
 unfold oQ at h
 refine cq 9 [5] [I (len s_1)] 49 ?_
 obtain⟨r2,hr2,h⟩:=bS h
 refine oq 65 (B r2) rfl (cP (cW hr2)) ?_
 refine cq 2 [8] [B (!r2)] 97 ?_
 obtain⟨y3,hy3,hy31,hy32⟩:=bJ h
 have j3:∀u3,y3=.inr u3→Run gS 0 (fH s_1 r) (.code (cR (cL (cR ng)))::.code (cR (cR ng))::[]) (sT 40 [(0,str s_1),(17,B u3)] [] 1):=by
  intro u3 hu
  replace h:=hy32 u3 hu
  refine sq h (fun h=>?_) fun h=>?_
  ·refine cq 4 [2] [B false] 17 ?_
   obtain rfl:=Option.some.inj h
   exact aj rfl (qp [B false])
  ·refine aq 1 ?_
   refine cq 6 [3] [I (0)] 17 ?_
   obtain⟨y7,hy7,hy71,hy72⟩:=bJ h
   refine bG rfl ?_
   refine rf [0,3] [] (IH s_1 rfl 0 _ hy7 (fun r' e st hq=>by rw[hy71 r' e] at hq;exact hq) fun u7 hu=>?_)
   replace h:=hy72 u7 hu
   refine cq 12 [29,30] [str s_1,B (s_1==([116,114,117,101]:ae))] 49 ?_
   obtain⟨u8,hu8,h⟩:=lJ h
   have j8:Run gS 0 (fH s_1 r) (.code kM::.blk 2::.code kF::[]) (sT 40 [(30,B u8)] [] 1):=by
    refine sq h (fun h=>?_) fun h=>?_
    ·refine cq 4 [2] [B false] 17 ?_
     obtain rfl:=Option.some.inj h
     exact aj rfl (qp [B false])
    ·refine aq 1 ?_
     refine cq 5 [2] [B true] 17 ?_
     obtain rfl:=Option.some.inj h
     exact aj rfl (qp [B true])
   replace h:=hu8
   clear hu8
   refine wu h rfl rfl (fun h=>?_) fun h=>?_
   ·refine aq 1 ?_
    subst h
    exact rf [30] [] (j8 :)
   ·refine cq 5 [30] [B (s_1==([102,114,111,109]:ae))] 81 ?_
    obtain⟨u9,hu9,h⟩:=lJ h
    have j9:Run gS 0 (fH s_1 r) (.code kM::.blk 2::.code kF::[]) (sT 40 [(30,B u9)] [] 1):=by
     subst h
     exact rf [30] [] (j8 :)
    replace h:=hu9
    clear hu9
    refine wu h rfl rfl (fun h=>?_) fun h=>?_
    ·refine aq 1 ?_
     subst h
     exact rf [30] [] (j9 :)
    ·refine cq 5 [30] [B (s_1==([110,111,116]:ae))] 113 ?_
     obtain⟨u10,hu10,h⟩:=lJ h
     have j10:Run gS 0 (fH s_1 r) (.code kM::.blk 2::.code kF::[]) (sT 40 [(30,B u10)] [] 1):=by
      subst h
      exact rf [30] [] (j9 :)
     replace h:=hu10
     clear hu10
     refine wu h rfl rfl (fun h=>?_) fun h=>?_
     ·refine aq 1 ?_
      subst h
      exact rf [30] [] (j10 :)
     ·refine cq 5 [30] [B (s_1==([97,110,100]:ae))] 145 ?_
      obtain⟨u11,hu11,h⟩:=lJ h
      have j11:Run gS 0 (fH s_1 r) (.code kM::.blk 2::.code kF::[]) (sT 40 [(30,B u11)] [] 1):=by
       subst h
       exact rf [30] [] (j10 :)
      replace h:=hu11
      clear hu11
      refine wu h rfl rfl (fun h=>?_) fun h=>?_
      ·refine aq 1 ?_
       subst h
       exact rf [30] [] (j11 :)
      ·refine cq 5 [30] [B (s_1==([111,114]:ae))] 177 ?_
       obtain⟨u12,hu12,h⟩:=lJ h
       have j12:Run gS 0 (fH s_1 r) (.code kM::.blk 2::.code kF::[]) (sT 40 [(30,B u12)] [] 1):=by
        subst h
        exact rf [30] [] (j11 :)
       replace h:=hu12
       clear hu12
       refine wu h rfl rfl (fun h=>?_) fun h=>?_
       ·refine aq 1 ?_
        subst h
        exact rf [30] [] (j12 :)
       ·refine cq 5 [30] [B (s_1==([98,111,116,104]:ae))] 209 ?_
        obtain⟨u13,hu13,h⟩:=lJ h
        have j13:Run gS 0 (fH s_1 r) (.code kM::.blk 2::.code kF::[]) (sT 40 [(30,B u13)] [] 1):=by
         subst h
         exact rf [30] [] (j12 :)
        replace h:=hu13
        clear hu13
        refine wu h rfl rfl (fun h=>?_) fun h=>?_
        ·refine aq 1 ?_
         subst h
         exact rf [30] [] (j13 :)
        ·refine cq 5 [30] [B (s_1==([101,105,116,104,101,114]:ae))] 241 ?_
         obtain⟨u14,hu14,h⟩:=lJ h
         have j14:Run gS 0 (fH s_1 r) (.code kM::.blk 2::.code kF::[]) (sT 40 [(30,B u14)] [] 1):=by
          subst h
          exact rf [30] [] (j13 :)
         replace h:=hu14
         clear hu14
         refine wu h rfl rfl (fun h=>?_) fun h=>?_
         ·refine aq 1 ?_
          subst h
          exact rf [30] [] (j14 :)
         ·refine cq 5 [30] [B (s_1==([105,116]:ae))] 273 ?_
          obtain⟨u15,hu15,h⟩:=lJ h
          have j15:Run gS 0 (fH s_1 r) (.code kM::.blk 2::.code kF::[]) (sT 40 [(30,B u15)] [] 1):=by
           subst h
           exact rf [30] [] (j14 :)
          replace h:=hu15
          clear hu15
          refine wu h rfl rfl (fun h=>?_) fun h=>?_
          ·refine aq 1 ?_
           subst h
           exact rf [30] [] (j15 :)
          ·refine cq 4 [30] [B (s_1==([105,110]:ae))] 305 ?_
           subst h
           exact rf [30] [] (j15 :)
 have r3:∀r',y3=.inl r'→∀st,fH s_1 r' st→(fH s_1 r) st:=fun r' e st hq=>by rw[hy31 r' e] at hq;exact hq
 replace h:=hy3
 refine sp 8 h rfl (fun h=>?_) fun h=>?_
 ·refine cq 10 [17] [B true] 241 ?_
  exact rf [0,17] [] (j3 _ (Option.some.inj h).symm :)
 ·refine cq 1 [9] [str s_1] 113 ?_
  obtain⟨c16,hc16,h⟩:=bS h
  refine oy 129 (.int .u8 (c16.toNat:Int)) rfl (kR rfl rfl (px rfl rfl hc16)) ?_
  refine cq 3 [13] [B (decide ((c16.toNat:Int)<97))] 177 ?_
  obtain⟨y17,hy17,hy171,hy172⟩:=bL h
  have j17:∀u17,y17=.inr u17→Run gS 0 (fH s_1 r) (.code (cR (cL (cR ng)))::.code (cR (cR ng))::[]) (sT 40 [(0,str s_1),(17,B u17)] [] 1):=by
   intro u17 hu
   replace h:=hy172 u17 hu
   exact rf [0,17] [] (j3 _ (Option.some.inj h).symm :)
  have r17:∀r',y17=.inl r'→∀st,fH s_1 r' st→(fH s_1 r) st:=fun r' e st hq=>r3 r' (hy171 r' e) st hq
  replace h:=hy17
  refine sp 13 h rfl (fun h=>?_) fun h=>?_
  ·refine cq 5 [17] [B true] 241 ?_
   exact rf [0,17] [] (j17 _ (Option.some.inj h).symm :)
  ·refine cq 1 [14] [str s_1] 193 ?_
   obtain⟨c18,hc18,h⟩:=bS h
   refine oy 209 (.int .u8 (c18.toNat:Int)) rfl (kR rfl rfl (px rfl rfl hc18)) ?_
   refine cq 3 [17] [B (decide ((c18.toNat:Int)>122))] 241 ?_
   exact rf [0,17] [] (j17 _ (Option.some.inj h).symm :)
theorem pt {G:Go.Ln.Ground}:aI Tryz.prog G 157 mu:=gT 1 0 (aD eU (aD Pr bg)) (Checked.mixed Tryz.checked) Tryz.func157 (fun a r h=>PL a r h)
def Cx:((List ae)×ae)→List V:=cA (ew str) (oA str)
def Bd (r:Bool):V×List V:=(B r,[])
noncomputable def rS:Ent:=aR [false,false] Cx Bd fun x=>rj x.1 x.2
theorem GA {list_1:List ae}{name_2:ae}{r}(h:rj list_1 name_2=some r):rS.F (Cx (list_1,name_2))=some (Bd r):=aC (aY (bz bm) (aB bm)) h
noncomputable def LI:Code:=az Tryz.f117
noncomputable def HM:Env:=bF Tryz.prog []
def No (x:(List ae)×ae)(r:Bool):St→Prop:=QF HM Tryz.f117 [false,false] (Cx x) (Bd r)
theorem I5 (list_1:List ae)(name_2:ae):cd HM 0 (No (list_1,name_2)) (cL (cL (cR (cL (cR LI))))) 0 (qE list_1 name_2) (fun u=>(sT 18 [] [] 1)) fun x3=>(sT 18 [(0,.isl false (list_1.map str)),(1,str name_2),(5,I x3)] [] 1):=dT (v6 list_1 name_2) fun {Q K} hK self ih x3 y h hr hn=>by
 unfold lc at h
 refine cq 5 [6,7] [I x3,.isl false (list_1.map str)] 33 ?_
 refine oq 49 (I (len list_1)) rfl (aX rfl rfl rfl (bc rfl)) ?_
 refine cq 2 [9] [B (decide (x3<(len list_1)))] 65 ?_
 refine sq h (fun h=>?_) fun h=>?_
 ·refine aq 1 ?_
  refine cq 6 [12,13] [.isl false (list_1.map str),I x3] 97 ?_
  obtain⟨e4,he4,h⟩:=bS h
  refine oq 113 (.iptr (str e4) 0) rfl (ap rfl rfl rfl (aQ rfl rfl rfl rfl he4)) ?_
  refine cq 4 [17] [B (e4==name_2)] 161 ?_
  refine sq h (fun h=>?_) fun h=>?_
  ·refine cq 4 [4] [B true] 177 ?_
   exact aj rfl (hr _ (Option.some.inj h).symm _ (qp [B true]))
  ·refine aq 1 ?_
   refine cq 6 [5] [I (ar (x3+1))] 209 ?_
   refine cG ?_
   exact rf [0,1,5] [] (ih _ _ h hr hn :)
 ·refine aq 1 ?_
  exact rf [] [] (hn _ (Option.some.inj h).symm :) (hk:=hK)
theorem RN (list_1:List ae)(name_2:ae)(r:Bool)(h:rj list_1 name_2=some r):be HM Tryz.f117 [false,false] 0 (Cx (list_1,name_2)) (Bd r):=by
 show Run _ _ (No (list_1,name_2) r) [.code LI] _
 refine rI 18 [(0,.isl false (list_1.map str)),(1,str name_2)] [] 1 ?_
 unfold rj at h
 refine cq 10 [5] [I (0)] 33 ?_
 obtain⟨y5,hy5,hy51,hy52⟩:=bJ h
 refine bG rfl ?_
 refine rf [0,1,5] [] (I5 list_1 name_2 rfl 0 _ hy5 (fun r' e st hq=>by rw[hy51 r' e] at hq;exact hq) fun u5 hu=>?_)
 replace h:=hy52 u5 hu
 refine cq 4 [4] [B false] 17 ?_
 obtain rfl:=Option.some.inj h
 exact aj rfl (qp [B false])
theorem Ej {G:Go.Ln.Ground}:aI Tryz.prog G 117 rS:=gT 2 0 bg (Checked.mixed Tryz.checked) Tryz.func117 (fun a r h=>RN a.1 a.2 r h)
def B5:Contract→List V:=oA aG
def zY (r:Bool):V×List V:=(B r,[])
noncomputable def xi:Ent:=aR [false] B5 zY fun x=>tp x
theorem Uh {c_1:Contract}{r}(h:tp c_1=some r):xi.F (B5 c_1)=some (zY r):=aC (aB aV) h
noncomputable def uo:Code:=az Tryz.f139
noncomputable def B3:Env:=bF Tryz.prog [(157,mu),(117,rS),(73,ef)]
def GX (x:Contract)(r:Bool):St→Prop:=QF B3 Tryz.f139 [false] (B5 x) (zY r)
theorem Ib (c_1:Contract):cd B3 0 (GX c_1) (cL (cL (cR (cL (cR uo))))) 0 (qw c_1) (fun u=>(sT 34 [(1,.hp 1 0 [] 2 0 0)] [⟨0,2,[.agg [.isl false (c_1.Parties.map str),.isl false (c_1.Clauses.map aa)]]⟩] 2)) fun x2=>(sT 34 [(1,.hp 1 0 [] 2 0 0),(3,I x2)] [⟨0,2,[.agg [.isl false (c_1.Parties.map str),.isl false (c_1.Clauses.map aa)]]⟩] 2):=dT (vA c_1) fun {Q K} hK self ih x2 y h hr hn=>by
 unfold jw at h
 refine cq 6 [4,6] [I x2,.isl false (c_1.Parties.map str)] 50 ?_
 refine oq 66 (I (len c_1.Parties)) rfl (aX rfl rfl rfl (bc rfl)) ?_
 refine cq 2 [8] [B (decide (x2<(len c_1.Parties)))] 82 ?_
 refine sq h (fun h=>?_) fun h=>?_
 ·refine aq 1 ?_
  refine aq 3 ?_
  refine d7 [0,1,0,7,15,31,63,127,255,511,255,2047,255,4351,255,28927,61695,131071,262143] rfl (by decide +kernel) ?_
  refine dq [1] [] (.hp 1 0 [] 2 0 0) rfl (al rfl rfl rfl) ?_
  refine dq [1] [] (.isl false (c_1.Parties.map str)) rfl (aM rfl rfl) ?_
  refine dk 1 [13] [I x2] ?_
  obtain⟨e3,he3,h⟩:=bS h
  refine dq [] [] (.iptr (str e3) 0) rfl (ap rfl rfl rfl (aQ rfl rfl rfl rfl he3)) ?_
  refine dq [] [] (str e3) rfl (aM rfl rfl) ?_
  obtain⟨r4,hr4,h⟩:=bS h
  refine dq [] [] (B r4) rfl (cP (ou hr4)) ?_ (dj rfl rfl rfl rfl (b9 (cQ rfl) dD) (ou hr4) (.inr rfl) rfl)
  refine dk 2 [18,17] [B (!r4),B (!r4)] ?_
  obtain⟨y5,hy5,hy51,hy52⟩:=bL h
  have j5:∀u5,y5=.inr u5→Run B3 0 Q (.code (cR (cL (cL (cR (cL (cL (cR (cL (cR uo)))))))))::.blk 1::.code (cR (cR (cL (cL (cR (cL (cR uo)))))))::.lp (cL (cL (cR (cL (cR uo)))))::.blk 0::K) (sT 34 [(1,.hp 1 0 [] 2 0 0),(3,I x2),(29,B u5)] [⟨0,2,[.agg [.isl false (c_1.Parties.map str),.isl false (c_1.Clauses.map aa)]]⟩] 2):=by
   intro u5 hu
   replace h:=hy52 u5 hu
   refine sq h (fun h=>?_) fun h=>?_
   ·refine cq 4 [2] [B false] 18 ?_
    exact aj rfl (hr _ (Option.some.inj h).symm _ (qp [B false]))
   ·refine aq 1 ?_
    refine cq 6 [3] [I (ar (x2+1))] 50 ?_
    refine cG ?_
    exact rf [1,3] [1] (ih _ _ h hr hn :)
  have r5:∀r',y5=.inl r'→∀st,GX c_1 r' st→Q st:=fun r' e st hq=>hr r' (hy51 r' e) st hq
  replace h:=hy5
  refine sp 18 h rfl (fun h=>?_) fun h=>?_
  ·refine dk 11 [29,28,27,26,25,24,23,22,21,20,19] [B true,.und,.und,.und,.und,.und,.und,.und,.und,.und,.und] ?_
   refine de 386 rfl rfl ?_
   exact rf [1,3,29] [1] (j5 _ (Option.some.inj h).symm :)
  ·refine dy [1] [] (.hp 1 0 [] 2 0 0) rfl (al rfl rfl rfl) ?_
   refine dy [1] [] (.isl false (c_1.Parties.map str)) rfl (aM rfl rfl) ?_
   refine dk 1 [21] [I x2] ?_
   obtain⟨s6,hs6,h⟩:=bS h
   refine dy [] [] (.isl false (s6.map str)) rfl (gf rfl rfl rfl rfl (HW rfl rfl (fun y=>(jz y).1) rfl rfl hs6)) ?_
   refine dy [1] [] (.hp 1 0 [] 2 0 0) rfl (al rfl rfl rfl) ?_
   refine dy [1] [] (.isl false (c_1.Parties.map str)) rfl (aM rfl rfl) ?_
   refine dk 1 [25] [I x2] ?_
   obtain⟨e7,he7,h⟩:=bS h
   refine dy [] [] (.iptr (str e7) 0) rfl (ap rfl rfl rfl (aQ rfl rfl rfl rfl he7)) ?_
   refine dy [] [] (str e7) rfl (aM rfl rfl) ?_
   obtain⟨r8,hr8,h⟩:=bS h
   refine dy [] [] (B r8) rfl (cP (GA hr8)) ?_ (dj rfl rfl rfl rfl (b9 (cQ rfl) (b9 (cQ rfl) dD)) (GA hr8) (.inr rfl) rfl)
   refine dk 1 [29] [B r8] ?_
   refine de 386 rfl rfl ?_
   exact rf [1,3,29] [1] (j5 _ (Option.some.inj h).symm :)
 ·refine aq 1 ?_
  exact rf [1] [1] (hn _ (Option.some.inj h).symm :) (hk:=hK)
theorem RE (c_1:Contract)(r:Bool)(h:tp c_1=some r):be B3 Tryz.f139 [false] 0 (B5 c_1) (zY r):=by
 show Run _ _ (GX c_1 r) [.code uo] _
 refine rI 34 [(0,.agg [.isl false (c_1.Parties.map str),.isl false (c_1.Clauses.map aa)])] [] 1 ?_
 unfold tp at h
 refine ck 11 [1,3] [] [1] [] [.hp 1 0 [] 2 0 0,I (0)] [some ⟨0,2,[.agg [.isl false (c_1.Parties.map str),.isl false (c_1.Clauses.map aa)]]⟩] 49 (by kernel_rfl) ?_
 obtain⟨y9,hy9,hy91,hy92⟩:=bJ h
 refine bG rfl ?_
 refine rf [1,3] [1] (Ib c_1 rfl 0 _ hy9 (fun r' e st hq=>by rw[hy91 r' e] at hq;exact hq) fun u9 hu=>?_)
 replace h:=hy92 u9 hu
 refine cq 4 [31] [.isl false (c_1.Parties.map str)] 34 ?_
 refine oq 50 (I (len c_1.Parties)) rfl (aX rfl rfl rfl (bc rfl)) ?_
 obtain⟨r10,hr10,h⟩:=bS h
 refine oq 66 (B r10) rfl (cP (cW hr10)) ?_
 refine cq 2 [2] [B r10] 82 ?_
 obtain rfl:=Option.some.inj h
 exact aj rfl (qp [B r10])
theorem O4 {G:Go.Ln.Ground}:aI Tryz.prog G 139 xi:=gT 1 0 (aD pt (aD Ej (aD eU bg))) (Checked.mixed Tryz.checked) Tryz.func139 (fun a r h=>RE a r h)
def AZ:(Contract×ae)→List V:=cA aG (oA str)
def zT (r:Int):V×List V:=(I r,[])
noncomputable def sx:Ent:=aR [false,false] AZ zT fun x=>rL x.1 x.2
theorem HX {c_1:Contract}{id_2:ae}{r}(h:rL c_1 id_2=some r):sx.F (AZ (c_1,id_2))=some (zT r):=aC (aY aV (aB bm)) h
noncomputable def O3:Code:=az Tryz.f140
noncomputable def Gq:Env:=bF Tryz.prog []
def Om (x:Contract×ae)(r:Int):St→Prop:=QF Gq Tryz.f140 [false,false] (AZ x) (zT r)
theorem IE (c_1:Contract)(id_2:ae):cd Gq 0 (Om (c_1,id_2)) (cL (cL (cR (cL (cR O3))))) 0 (qt c_1 id_2) (fun u=>(sT 22 [] [] 1)) fun x3=>(sT 22 [(1,str id_2),(2,.hp 1 0 [] 2 0 0),(5,I x3)] [⟨0,2,[.agg [.isl false (c_1.Parties.map str),.isl false (c_1.Clauses.map aa)]]⟩] 2):=dT (wx c_1 id_2) fun {Q K} hK self ih x3 y h hr hn=>by
 unfold kU at h
 refine cq 6 [6,8] [I x3,.isl false (c_1.Clauses.map aa)] 50 ?_
 refine oq 66 (I (len c_1.Clauses)) rfl (aX rfl rfl rfl (bc rfl)) ?_
 refine cq 2 [10] [B (decide (x3<(len c_1.Clauses)))] 82 ?_
 refine sq h (fun h=>?_) fun h=>?_
 ·refine aq 1 ?_
  refine cq 7 [14,15] [.isl false (c_1.Clauses.map aa),I x3] 130 ?_
  obtain⟨e4,he4,h⟩:=bS h
  refine oq 146 (.iptr (.agg [str e4.Id,I e4.Kind,I e4.Party,str e4.Action,I e4.Other,I e4.Amount,I e4.When.Op,str e4.When.Name,I e4.When.Day,.isl false (e4.When.Parts.map ac),I e4.Within,str e4.Repair]) 0) rfl (ap rfl rfl rfl (aQ rfl rfl rfl rfl he4)) ?_
  refine cq 5 [20] [B (e4.Id==id_2)] 210 ?_
  refine sq h (fun h=>?_) fun h=>?_
  ·refine cq 5 [4] [I x3] 242 ?_
   exact aj rfl (hr _ (Option.some.inj h).symm _ (qp [I x3]))
  ·refine aq 1 ?_
   refine cq 6 [5] [I (ar (x3+1))] 258 ?_
   refine cG ?_
   exact rf [1,2,5] [1] (ih _ _ h hr hn :)
 ·refine aq 1 ?_
  exact rf [] [] (hn _ (Option.some.inj h).symm :) (hk:=hK)
theorem RA (c_1:Contract)(id_2:ae)(r:Int)(h:rL c_1 id_2=some r):be Gq Tryz.f140 [false,false] 0 (AZ (c_1,id_2)) (zT r):=by
 show Run _ _ (Om (c_1,id_2) r) [.code O3] _
 refine rI 22 [(0,.agg [.isl false (c_1.Parties.map str),.isl false (c_1.Clauses.map aa)]),(1,str id_2)] [] 1 ?_
 unfold rL at h
 refine ck 11 [2,5] [] [1] [] [.hp 1 0 [] 2 0 0,I (0)] [some ⟨0,2,[.agg [.isl false (c_1.Parties.map str),.isl false (c_1.Clauses.map aa)]]⟩] 49 (by kernel_rfl) ?_
 obtain⟨y5,hy5,hy51,hy52⟩:=bJ h
 refine bG rfl ?_
 refine rf [1,2,5] [1] (IE c_1 id_2 rfl 0 _ hy5 (fun r' e st hq=>by rw[hy51 r' e] at hq;exact hq) fun u5 hu=>?_)
 replace h:=hy52 u5 hu
 refine cq 4 [4] [I (-1)] 17 ?_
 obtain rfl:=Option.some.inj h
 exact aj rfl (qp [I (-1)])
theorem EM {G:Go.Ln.Ground}:aI Tryz.prog G 140 sx:=gT 2 0 bg (Checked.mixed Tryz.checked) Tryz.func140 (fun a r h=>RA a.1 a.2 r h)
def BB:Int→List V:=oA I
def AO (r:Bool):V×List V:=(B r,[])
noncomputable def oK:Ent:=aR [false] BB AO fun x=>om x
theorem zV {day_1:Int}{r}(h:om day_1=some r):oK.F (BB day_1)=some (AO r):=aC (aB bO) h
noncomputable def U5:Code:=az Tryz.f114
noncomputable def LF:Env:=bF Tryz.prog [(73,ef)]
def Vj (x:Int)(r:Bool):St→Prop:=QF LF Tryz.f114 [false] (BB x) (AO r)
theorem RU (day_1:Int)(r:Bool)(h:om day_1=some r):be LF Tryz.f114 [false] 0 (BB day_1) (AO r):=by
 show Run _ _ (Vj day_1 r) [.code U5] _
 refine rI 5 [(0,I day_1)] [] 1 ?_
 unfold om at h
 refine cq 7 [3] [I day_1] 33 ?_
 obtain⟨r2,hr2,h⟩:=bS h
 refine oq 49 (B r2) rfl (cP (cW hr2)) ?_
 refine cq 2 [2] [B r2] 65 ?_
 obtain rfl:=Option.some.inj h
 exact aj rfl (qp [B r2])
theorem tK {G:Go.Ln.Ground}:aI Tryz.prog G 114 oK:=gT 1 0 (aD eU bg) (Checked.mixed Tryz.checked) Tryz.func114 (fun a r h=>RU a r h)
def Az:Condition→List V:=oA aP
def Co (r:Bool):V×List V:=(B r,[])
noncomputable def xI:Ent:=aR [false] Az Co fun x=>yh x
theorem Wb {c_1:Condition}{r}(h:yh c_1=some r):xI.F (Az c_1)=some (Co r):=aC (aB cf) h
noncomputable def lY:Code:=az Tryz.f244
noncomputable abbrev gJ:Code:=cR (cR (cR lY))
noncomputable abbrev JK:Code:=cR (cL (cR (cR (cR (cL (cR (cL (cR (cR lY)))))))))
noncomputable abbrev Jh:Code:=cR (cL (cR (cR (cR (cR (cR (cL (cR (cL (cR (cR lY)))))))))))
noncomputable abbrev Jk:Code:=cR (cL (cR (cR (cR (cR (cR (cR (cR (cL (cR (cL (cR (cR lY)))))))))))))
noncomputable abbrev JM:Code:=cR (cL (cR (cR (cR (cR (cR (cR (cR (cR (cR (cL (cR (cL (cR (cR lY)))))))))))))))
noncomputable def gI:Env:=bF Tryz.prog [(157,mu),(114,oK)]
def eR (x:Condition)(r:Bool):St→Prop:=QF gI Tryz.f244 [false] (Az x) (Co r)
theorem PM (c_1:Condition)(r:Bool)(h:yh c_1=some r):be gI Tryz.f244 [false] 0 (Az c_1) (Co r):=by
 show Run _ _ (eR c_1 r) [.code lY] _
 refine rI 80 [(0,.agg [I c_1.Op,str c_1.Name,I c_1.Day,.isl false (c_1.Parts.map ac)])] [] 1 ?_
 unfold yh at h
 refine ck 9 [1,5] [] [1] [] [.hp 1 0 [] 4 0 0,.isl false (c_1.Parts.map ac)] [some ⟨0,4,[.agg [I c_1.Op,str c_1.Name,I c_1.Day,.isl false (c_1.Parts.map ac)]]⟩] 65 (by kernel_rfl) ?_
 refine oq 81 (I (len c_1.Parts)) rfl (aX rfl rfl rfl (bc rfl)) ?_
 refine cq 14 [3,8,9] [I (len c_1.Parts),I c_1.Op,B (c_1.Op==1)] 161 ?_
 refine sq h (fun h=>?_) fun h=>?_
 ·refine cq 5 [13] [B ((len c_1.Parts)==0)] 209 ?_
  obtain⟨u2,hu2,h⟩:=lJ h
  have j2:Run gI 0 (eR c_1 r) (.code (cR (cL (cR (cL (cR (cL (cR (cR lY))))))))::.blk 0::.code gJ::[]) (sT 80 [(2,B u2)] [] 1):=by
   obtain rfl:=Option.some.inj h
   exact aj rfl (qp [B u2])
  replace h:=hu2
  clear hu2
  refine sp 13 h rfl (fun h=>?_) fun h=>?_
  ·refine cq 5 [18] [B (c_1.Name==([]:ae))] 289 ?_
   obtain⟨u3,hu3,h⟩:=lJ h
   have j3:Run gI 0 (eR c_1 r) (.code (cR (cL (cR (cL (cR (cL (cR (cR lY))))))))::.blk 0::.code gJ::[]) (sT 80 [(2,B u3)] [] 1):=by
    subst h
    exact rf [2] [] (j2 :)
   replace h:=hu3
   clear hu3
   refine sp 18 h rfl (fun h=>?_) fun h=>?_
   ·refine cq 6 [2] [B (c_1.Day==0)] 369 ?_
    subst h
    exact rf [2] [] (j3 :)
   ·refine cq 6 [2] [B false] 369 ?_
    subst h
    exact rf [2] [] (j3 :)
  ·refine cq 11 [2] [B false] 369 ?_
   subst h
   exact rf [2] [] (j2 :)
 ·refine cq 5 [23] [B (c_1.Op==2)] 193 ?_
  refine sq h (fun h=>?_) fun h=>?_
  ·refine cq 5 [27] [B ((len c_1.Parts)==0)] 241 ?_
   obtain⟨y4,hy4,hy41,hy42⟩:=bJ h
   have j4:∀u4,y4=.inr u4→Run gI 0 (eR c_1 r) (.code JK::.blk 0::.code gJ::[]) (sT 80 [(2,B u4)] [] 1):=by
    intro u4 hu
    replace h:=hy42 u4 hu
    obtain rfl:=Option.some.inj h
    exact aj rfl (qp [B u4])
   have r4:∀r',y4=.inl r'→∀st,eR c_1 r' st→(eR c_1 r) st:=fun r' e st hq=>by rw[hy41 r' e] at hq;exact hq
   replace h:=hy4
   refine sp 27 h rfl (fun h=>?_) fun h=>?_
   ·refine cq 2 [29] [str c_1.Name] 273 ?_
    obtain⟨r5,hr5,h⟩:=bS h
    refine oy 289 (B r5) rfl (cP (ou hr5)) ?_
    refine cq 2 [32] [B r5] 321 ?_
    obtain⟨u6,hu6,h⟩:=lJ h
    have j6:Run gI 0 (eR c_1 r) (.code JK::.blk 0::.code gJ::[]) (sT 80 [(2,B u6)] [] 1):=by
     exact rf [2] [] (j4 _ (Option.some.inj h).symm :)
    replace h:=hu6
    clear hu6
    refine sp 32 h rfl (fun h=>?_) fun h=>?_
    ·refine cq 6 [2] [B (c_1.Day==0)] 401 ?_
     subst h
     exact rf [2] [] (j6 :)
    ·refine cq 6 [2] [B false] 401 ?_
     subst h
     exact rf [2] [] (j6 :)
   ·refine cq 11 [2] [B false] 401 ?_
    exact rf [2] [] (j4 _ (Option.some.inj h).symm :)
  ·refine cq 5 [37] [B (c_1.Op==3)] 225 ?_
   refine sq h (fun h=>?_) fun h=>?_
   ·refine cq 5 [41] [B ((len c_1.Parts)==0)] 273 ?_
    obtain⟨y7,hy7,hy71,hy72⟩:=bJ h
    have j7:∀u7,y7=.inr u7→Run gI 0 (eR c_1 r) (.code Jh::.blk 0::.code gJ::[]) (sT 80 [(2,B u7)] [] 1):=by
     intro u7 hu
     replace h:=hy72 u7 hu
     obtain rfl:=Option.some.inj h
     exact aj rfl (qp [B u7])
    have r7:∀r',y7=.inl r'→∀st,eR c_1 r' st→(eR c_1 r) st:=fun r' e st hq=>by rw[hy71 r' e] at hq;exact hq
    replace h:=hy7
    refine sp 41 h rfl (fun h=>?_) fun h=>?_
    ·refine cq 5 [46] [B (c_1.Name==([]:ae))] 353 ?_
     obtain⟨y8,hy8,hy81,hy82⟩:=bL h
     have j8:∀u8,y8=.inr u8→Run gI 0 (eR c_1 r) (.code Jh::.blk 0::.code gJ::[]) (sT 80 [(2,B u8)] [] 1):=by
      intro u8 hu
      replace h:=hy82 u8 hu
      exact rf [2] [] (j7 _ (Option.some.inj h).symm :)
     have r8:∀r',y8=.inl r'→∀st,eR c_1 r' st→(eR c_1 r) st:=fun r' e st hq=>r7 r' (hy81 r' e) st hq
     replace h:=hy8
     refine sp 46 h rfl (fun h=>?_) fun h=>?_
     ·refine cq 2 [48] [I c_1.Day] 385 ?_
      obtain⟨r9,hr9,h⟩:=bS h
      refine oy 401 (B r9) rfl (cP (zV hr9)) ?_
      refine cq 3 [2] [B r9] 433 ?_
      exact rf [2] [] (j8 _ (Option.some.inj h).symm :)
     ·refine cq 6 [2] [B false] 433 ?_
      exact rf [2] [] (j8 _ (Option.some.inj h).symm :)
    ·refine cq 11 [2] [B false] 433 ?_
     exact rf [2] [] (j7 _ (Option.some.inj h).symm :)
   ·refine cq 5 [51] [B (c_1.Op==4)] 257 ?_
    refine sq h (fun h=>?_) fun h=>?_
    ·refine cq 5 [55] [B ((len c_1.Parts)==1)] 305 ?_
     obtain⟨u10,hu10,h⟩:=lJ h
     have j10:Run gI 0 (eR c_1 r) (.code Jk::.blk 0::.code gJ::[]) (sT 80 [(2,B u10)] [] 1):=by
      obtain rfl:=Option.some.inj h
      exact aj rfl (qp [B u10])
     replace h:=hu10
     clear hu10
     refine sp 55 h rfl (fun h=>?_) fun h=>?_
     ·refine cq 5 [60] [B (c_1.Name==([]:ae))] 385 ?_
      obtain⟨u11,hu11,h⟩:=lJ h
      have j11:Run gI 0 (eR c_1 r) (.code Jk::.blk 0::.code gJ::[]) (sT 80 [(2,B u11)] [] 1):=by
       subst h
       exact rf [2] [] (j10 :)
      replace h:=hu11
      clear hu11
      refine sp 60 h rfl (fun h=>?_) fun h=>?_
      ·refine cq 6 [2] [B (c_1.Day==0)] 465 ?_
       subst h
       exact rf [2] [] (j11 :)
      ·refine cq 6 [2] [B false] 465 ?_
       subst h
       exact rf [2] [] (j11 :)
     ·refine cq 11 [2] [B false] 465 ?_
      subst h
      exact rf [2] [] (j10 :)
    ·refine cq 6 [65] [B (c_1.Op==5)] 289 ?_
     obtain⟨u12,hu12,h⟩:=lJ h
     have j12:Run gI 0 (eR c_1 r) (.code (cR (cR (cR (cR (cR (cR (cR (cR (cR (cL (cR (cL (cR (cR lY))))))))))))))::.blk 0::.code gJ::[]) (sT 80 [(1,.hp 1 0 [] 4 0 0),(3,I (len c_1.Parts)),(65,B u12)] [⟨0,4,[.agg [I c_1.Op,str c_1.Name,I c_1.Day,.isl false (c_1.Parts.map ac)]]⟩] 2):=by
      refine sq h (fun h=>?_) fun h=>?_
      ·refine cq 5 [70] [B ((len c_1.Parts)==2)] 50 ?_
       obtain⟨u13,hu13,h⟩:=lJ h
       have j13:Run gI 0 (eR c_1 r) (.code JM::.blk 0::.code gJ::[]) (sT 80 [(2,B u13)] [] 1):=by
        obtain rfl:=Option.some.inj h
        exact aj rfl (qp [B u13])
       replace h:=hu13
       clear hu13
       refine sp 70 h rfl (fun h=>?_) fun h=>?_
       ·refine cq 5 [75] [B (c_1.Name==([]:ae))] 130 ?_
        obtain⟨u14,hu14,h⟩:=lJ h
        have j14:Run gI 0 (eR c_1 r) (.code JM::.blk 0::.code gJ::[]) (sT 80 [(2,B u14)] [] 1):=by
         subst h
         exact rf [2] [] (j13 :)
        replace h:=hu14
        clear hu14
        refine sp 75 h rfl (fun h=>?_) fun h=>?_
        ·refine cq 6 [2] [B (c_1.Day==0)] 210 ?_
         subst h
         exact rf [2] [] (j14 :)
        ·refine cq 6 [2] [B false] 210 ?_
         subst h
         exact rf [2] [] (j14 :)
       ·refine cq 11 [2] [B false] 210 ?_
        subst h
        exact rf [2] [] (j13 :)
      ·refine aq 1 ?_
       refine cq 5 [2] [B false] 18 ?_
       obtain rfl:=Option.some.inj h
       exact aj rfl (qp [B false])
     replace h:=hu12
     clear hu12
     refine wu h rfl rfl (fun h=>?_) fun h=>?_
     ·refine aq 1 ?_
      subst h
      exact rf [1,3,65] [1] (j12 :)
     ·refine cq 4 [65] [B (c_1.Op==6)] 321 ?_
      subst h
      exact rf [1,3,65] [1] (j12 :)
theorem OT {G:Go.Ln.Ground}:aI Tryz.prog G 244 xI:=gT 1 0 (aD pt (aD tK bg)) (Checked.mixed Tryz.checked) Tryz.func244 (fun a r h=>PM a r h)
def uI:Condition→List V:=oA aP
def tZ (r:Bool):V×List V:=(B r,[])
noncomputable def uD (slf_Ffcy:Condition→Option Bool):Ent:=aR [false] uI tZ slf_Ffcy
theorem JR (slf_Ffcy:Condition→Option Bool){x}{r}(h:slf_Ffcy x=some r):(uD slf_Ffcy).F (uI x)=some (tZ r):=aC (aB cf) h
noncomputable def yz:Ent:=uD (aJ oz)
theorem Vp {c_1:Condition}{r}(h:DA c_1=some r):yz.F (uI c_1)=some (tZ r):=JR (aJ oz) h
noncomputable def NB:Code:=az Tryz.f224
noncomputable def F4 (slf_Ffcy:Condition→Option Bool):Env:=bF Tryz.prog [(244,xI),(224,(uD slf_Ffcy))]
def LW (slf_Ffcy:Condition→Option Bool)(x:Condition)(r:Bool):St→Prop:=QF (F4 slf_Ffcy) Tryz.f224 [false] (uI x) (tZ r)
theorem I2 (slf_Ffcy:Condition→Option Bool)(c_1:Condition):cd (F4 slf_Ffcy) 0 (LW slf_Ffcy c_1) (cL (cL (cR (cL (cR (cR NB)))))) 0 (oa slf_Ffcy c_1) (fun u=>(sT 21 [] [] 1)) fun x3=>(sT 21 [(1,.hp 1 0 [] 4 0 0),(3,I x3)] [⟨0,4,[.agg [I c_1.Op,str c_1.Name,I c_1.Day,.isl false (c_1.Parts.map ac)]]⟩] 2):=dT (wo slf_Ffcy c_1) fun {Q K} hK self ih x3 y h hr hn=>by
 unfold jb at h
 refine cq 6 [7,9] [I x3,.isl false (c_1.Parts.map ac)] 50 ?_
 refine oq 66 (I (len c_1.Parts)) rfl (aX rfl rfl rfl (bc rfl)) ?_
 refine cq 2 [11] [B (decide (x3<(len c_1.Parts)))] 82 ?_
 refine sq h (fun h=>?_) fun h=>?_
 ·refine aq 1 ?_
  refine cq 7 [15,16] [.isl false (c_1.Parts.map ac),I x3] 130 ?_
  obtain⟨e4,he4,h⟩:=bS h
  refine oq 146 (.iptr (.agg [I e4.Op,str e4.Name,I e4.Day,.isl false (e4.Parts.map ac)]) 0) rfl (ap rfl rfl rfl (aQ rfl rfl (ce e4) rfl he4)) ?_
  refine cq 1 [18] [.agg [I e4.Op,str e4.Name,I e4.Day,.isl false (e4.Parts.map ac)]] 162 ?_
  obtain⟨r5,hr5,h⟩:=bS h
  refine oq 178 (B r5) rfl (co rfl rfl (cI rfl rfl rfl (b9 (cQ rfl) dD) (JR slf_Ffcy hr5) (.inr rfl) d9 rfl rfl rfl)) ?_
  refine cq 2 [20] [B (!r5)] 194 ?_
  refine sq h (fun h=>?_) fun h=>?_
  ·refine cq 4 [2] [B false] 210 ?_
   exact aj rfl (hr _ (Option.some.inj h).symm _ (qp [B false]))
  ·refine aq 1 ?_
   refine cq 6 [3] [I (ar (x3+1))] 242 ?_
   refine cG ?_
   exact rf [1,3] [1] (ih _ _ h hr hn :)
 ·refine aq 1 ?_
  exact rf [] [] (hn _ (Option.some.inj h).symm :) (hk:=hK)
theorem PR (slf_Ffcy:Condition→Option Bool)(c_1:Condition)(r:Bool)(h:qC slf_Ffcy c_1=some r):be (F4 slf_Ffcy) Tryz.f224 [false] 0 (uI c_1) (tZ r):=by
 show Run _ _ (LW slf_Ffcy c_1 r) [.code NB] _
 refine rI 21 [(0,.agg [I c_1.Op,str c_1.Name,I c_1.Day,.isl false (c_1.Parts.map ac)])] [] 1 ?_
 unfold qC at h
 refine ck 9 [1,4] [] [1] [] [.hp 1 0 [] 4 0 0,.agg [I c_1.Op,str c_1.Name,I c_1.Day,.isl false (c_1.Parts.map ac)]] [some ⟨0,4,[.agg [I c_1.Op,str c_1.Name,I c_1.Day,.isl false (c_1.Parts.map ac)]]⟩] 49 (by kernel_rfl) ?_
 obtain⟨r2,hr2,h⟩:=bS h
 refine oq 65 (B r2) rfl (cP (Wb hr2)) ?_
 refine cq 2 [6] [B (!r2)] 81 ?_
 refine sq h (fun h=>?_) fun h=>?_
 ·refine cq 4 [2] [B false] 97 ?_
  obtain rfl:=Option.some.inj h
  exact aj rfl (qp [B false])
 ·refine aq 1 ?_
  refine cq 6 [3] [I (0)] 97 ?_
  obtain⟨y6,hy6,hy61,hy62⟩:=bJ h
  refine bG rfl ?_
  refine rf [1,3] [1] (I2 slf_Ffcy c_1 rfl 0 _ hy6 (fun r' e st hq=>by rw[hy61 r' e] at hq;exact hq) fun u6 hu=>?_)
  replace h:=hy62 u6 hu
  refine cq 4 [2] [B true] 17 ?_
  obtain rfl:=Option.some.inj h
  exact aj rfl (qp [B true])
theorem Ot {G:Go.Ln.Ground}:aI Tryz.prog G 224 yz:=jx fun slf_Ffcy g_Ffcy=>gT 1 0 (aD OT (aD g_Ffcy bg)) (Checked.mixed Tryz.checked) Tryz.func224 (fun a r h=>PR slf_Ffcy a r h)
def tf:Condition→List V:=oA aP
def tk (r:Int):V×List V:=(I r,[])
noncomputable def uJ (slf_Ffdf:Condition→Option Int):Ent:=aR [false] tf tk slf_Ffdf
theorem JP (slf_Ffdf:Condition→Option Int){x}{r}(h:slf_Ffdf x=some r):(uJ slf_Ffdf).F (tf x)=some (tk r):=aC (aB cf) h
noncomputable def yo:Ent:=uJ (aJ ju)
theorem T5 {c_1:Condition}{r}(h:HH c_1=some r):yo.F (tf c_1)=some (tk r):=JP (aJ ju) h
noncomputable def Pm:Code:=az Tryz.f225
noncomputable def GK (slf_Ffdf:Condition→Option Int):Env:=bF Tryz.prog [(225,(uJ slf_Ffdf))]
def LE (slf_Ffdf:Condition→Option Int)(x:Condition)(r:Int):St→Prop:=QF (GK slf_Ffdf) Tryz.f225 [false] (tf x) (tk r)
theorem IL (slf_Ffdf:Condition→Option Int)(c_1:Condition):cd (GK slf_Ffdf) 0 (LE slf_Ffdf c_1) (cL (cL (cR (cL (cR (cR Pm)))))) 0 (jV slf_Ffdf c_1) (fun u=>(sT 21 [(3,I u)] [] 1)) fun x2=>(sT 21 [(1,.hp 1 0 [] 4 0 0),(3,I x2.1),(4,I x2.2)] [⟨0,4,[.agg [I c_1.Op,str c_1.Name,I c_1.Day,.isl false (c_1.Parts.map ac)]]⟩] 2):=dT (vC slf_Ffdf c_1) fun {Q K} hK self ih x2 y h hr hn=>by
 unfold hI at h
 refine cq 6 [5,7] [I x2.2,.isl false (c_1.Parts.map ac)] 50 ?_
 refine oq 66 (I (len c_1.Parts)) rfl (aX rfl rfl rfl (bc rfl)) ?_
 refine cq 2 [9] [B (decide (x2.2<(len c_1.Parts)))] 82 ?_
 refine sq h (fun h=>?_) fun h=>?_
 ·refine aq 1 ?_
  refine cq 7 [12,14,15] [I x2.1,.isl false (c_1.Parts.map ac),I x2.2] 146 ?_
  obtain⟨e3,he3,h⟩:=bS h
  refine oq 162 (.iptr (.agg [I e3.Op,str e3.Name,I e3.Day,.isl false (e3.Parts.map ac)]) 0) rfl (ap rfl rfl rfl (aQ rfl rfl (ce e3) rfl he3)) ?_
  refine cq 1 [17] [.agg [I e3.Op,str e3.Name,I e3.Day,.isl false (e3.Parts.map ac)]] 178 ?_
  obtain⟨r4,hr4,h⟩:=bS h
  refine oq 194 (I r4) rfl (co rfl rfl (cI rfl rfl rfl (b9 (cQ rfl) dD) (JP slf_Ffdf hr4) (.inr rfl) d9 rfl rfl rfl)) ?_
  refine cq 9 [3,4] [I (ar (x2.1+r4)),I (ar (x2.2+1))] 274 ?_
  refine cG ?_
  exact rf [1,3,4] [1] (ih _ _ h hr hn :)
 ·refine aq 1 ?_
  exact rf [3] [] (hn _ (Option.some.inj h).symm :) (hk:=hK)
theorem QE (slf_Ffdf:Condition→Option Int)(c_1:Condition)(r:Int)(h:qb slf_Ffdf c_1=some r):be (GK slf_Ffdf) Tryz.f225 [false] 0 (tf c_1) (tk r):=by
 show Run _ _ (LE slf_Ffdf c_1 r) [.code Pm] _
 refine rI 21 [(0,.agg [I c_1.Op,str c_1.Name,I c_1.Day,.isl false (c_1.Parts.map ac)])] [] 1 ?_
 unfold qb at h
 refine ck 15 [1,3,4] [] [1] [] [.hp 1 0 [] 4 0 0,I (1),I (0)] [some ⟨0,4,[.agg [I c_1.Op,str c_1.Name,I c_1.Day,.isl false (c_1.Parts.map ac)]]⟩] 65 (by kernel_rfl) ?_
 obtain⟨y5,hy5,hy51,hy52⟩:=bJ h
 refine bG rfl ?_
 refine rf [1,3,4] [1] (IL slf_Ffdf c_1 rfl (1,0) _ hy5 (fun r' e st hq=>by rw[hy51 r' e] at hq;exact hq) fun u5 hu=>?_)
 replace h:=hy52 u5 hu
 refine cq 5 [2] [I u5] 33 ?_
 obtain rfl:=Option.some.inj h
 exact aj rfl (qp [I u5])
theorem Oq {G:Go.Ln.Ground}:aI Tryz.prog G 225 yo:=jx fun slf_Ffdf g_Ffdf=>gT 1 0 (aD g_Ffdf bg) (Checked.mixed Tryz.checked) Tryz.func225 (fun a r h=>QE slf_Ffdf a r h)
def zQ:Condition→List V:=oA aP
def BV (r:Bool):V×List V:=(B r,[])
noncomputable def xr:Ent:=aR [false] zQ BV fun x=>yT x
theorem U1 {c_1:Condition}{r}(h:yT c_1=some r):xr.F (zQ c_1)=some (BV r):=aC (aB cf) h
noncomputable def M2:Code:=az Tryz.f194
noncomputable def HY:Env:=bF Tryz.prog [(224,yz),(225,yo)]
def BG (x:Condition)(r:Bool):St→Prop:=QF HY Tryz.f194 [false] (zQ x) (BV r)
theorem PE (c_1:Condition)(r:Bool)(h:yT c_1=some r):be HY Tryz.f194 [false] 0 (zQ c_1) (BV r):=by
 show Run _ _ (BG c_1 r) [.code M2] _
 refine rI 10 [(0,.agg [I c_1.Op,str c_1.Name,I c_1.Day,.isl false (c_1.Parts.map ac)])] [] 1 ?_
 unfold yT at h
 refine ck 8 [1,3] [] [1] [] [.hp 1 0 [] 4 0 0,.agg [I c_1.Op,str c_1.Name,I c_1.Day,.isl false (c_1.Parts.map ac)]] [some ⟨0,4,[.agg [I c_1.Op,str c_1.Name,I c_1.Day,.isl false (c_1.Parts.map ac)]]⟩] 49 (by kernel_rfl) ?_
 obtain⟨r2,hr2,h⟩:=bS h
 refine oq 65 (B r2) rfl (cP (Vp hr2)) ?_
 refine cq 1 [5] [B r2] 81 ?_
 obtain⟨y3,hy3,hy31,hy32⟩:=bJ h
 have j3:∀u3,y3=.inr u3→Run HY 0 (BG c_1 r) (.code (cR (cR M2))::[]) (sT 10 [(2,B u3)] [] 1):=by
  intro u3 hu
  replace h:=hy32 u3 hu
  obtain rfl:=Option.some.inj h
  exact aj rfl (qp [B u3])
 have r3:∀r',y3=.inl r'→∀st,BG c_1 r' st→(BG c_1 r) st:=fun r' e st hq=>by rw[hy31 r' e] at hq;exact hq
 replace h:=hy3
 refine sp 5 h rfl (fun h=>?_) fun h=>?_
 ·refine cq 1 [6] [.agg [I c_1.Op,str c_1.Name,I c_1.Day,.isl false (c_1.Parts.map ac)]] 97 ?_
  obtain⟨r4,hr4,h⟩:=bS h
  refine oy 113 (I r4) rfl (cP (T5 hr4)) ?_
  refine cq 4 [2] [B (decide (r4≤15))] 161 ?_
  exact rf [2] [] (j3 _ (Option.some.inj h).symm :)
 ·refine cq 6 [2] [B false] 161 ?_
  exact rf [2] [] (j3 _ (Option.some.inj h).symm :)
theorem Ph {G:Go.Ln.Ground}:aI Tryz.prog G 194 xr:=gT 1 0 (aD Ot (aD Oq bg)) (Checked.mixed Tryz.checked) Tryz.func194 (fun a r h=>PE a r h)
def Ck:(Contract×Int)→List V:=cA aG (oA I)
def zm (r:Bool):V×List V:=(B r,[])
noncomputable def yQ:Ent:=aR [false,false] Ck zm fun x=>xH x.1 x.2
theorem Mc {c_1:Contract}{i_2:Int}{r}(h:xH c_1 i_2=some r):yQ.F (Ck (c_1,i_2))=some (zm r):=aC (aY aV (aB bO)) h
noncomputable def Hr:Code:=az Tryz.f141
noncomputable abbrev kO:Code:=cR (cR (cR (cR Hr)))
noncomputable abbrev nZ:Code:=cR (cL (cR (cR (cR Hr))))
noncomputable abbrev qd:Code:=cR kO
noncomputable abbrev uS:Code:=cR (cL kO)
noncomputable abbrev Dd:Code:=cR (cR (cR qd))
noncomputable def f7:Env:=bF Tryz.prog [(157,mu),(73,ef),(140,sx),(194,xr)]
def cM (x:Contract×Int)(r:Bool):St→Prop:=QF f7 Tryz.f141 [false,false] (Ck x) (zm r)
theorem Qr (c_1:Contract)(i_2:Int)(r:Bool)(h:xH c_1 i_2=some r):be f7 Tryz.f141 [false,false] 0 (Ck (c_1,i_2)) (zm r):=by
 show Run _ _ (cM (c_1,i_2) r) [.code Hr] _
 refine rI 114 [(0,.agg [.isl false (c_1.Parties.map str),.isl false (c_1.Clauses.map aa)]),(1,I i_2)] [] 1 ?_
 unfold xH at h
 refine ck 10 [2,9,10] [] [1] [] [.hp 1 0 [] 2 0 0,.isl false (c_1.Clauses.map aa),I i_2] [some ⟨0,2,[.agg [.isl false (c_1.Parties.map str),.isl false (c_1.Clauses.map aa)]]⟩] 81 (by kernel_rfl) ?_
 obtain⟨e3,he3,h⟩:=bS h
 refine oq 97 (.iptr (.agg [str e3.Id,I e3.Kind,I e3.Party,str e3.Action,I e3.Other,I e3.Amount,I e3.When.Op,str e3.When.Name,I e3.When.Day,.isl false (e3.When.Parts.map ac),I e3.Within,str e3.Repair]) 0) rfl (ap rfl rfl rfl (aQ rfl rfl rfl rfl he3)) ?_
 refine ck 2 [5,12] [] [113] [] [.hp 113 0 [] 12 0 0,.agg [str e3.Id,I e3.Kind,I e3.Party,str e3.Action,I e3.Other,I e3.Amount,I e3.When.Op,str e3.When.Name,I e3.When.Day,.isl false (e3.When.Parts.map ac),I e3.Within,str e3.Repair]] [some ⟨0,12,[.agg [str ([]),I (0),I (0),str ([]),I (0),I (0),I (0),str ([]),I (0),.isl true [],I (0),str ([])]]⟩] 129 (by kernel_rfl) ?_
 refine d8 113 [.agg [str ([]),I (0),I (0),str ([]),I (0),I (0),I (0),str ([]),I (0),.usl 4 (([]).map ao),I (0),str ([])]] rfl rfl (au (fi (au (.refl _) (au (.refl _) (au (.refl _) (au (.refl _) (au (.refl _) (au (.refl _) (au (.refl _) (au (.refl _) (au (.refl _) (au (.nil _) (au (.refl _) (au (.refl _) dA))))))))))))) dA) ?_
 refine ck 6 [14] [] [113] [] [.isl false (c_1.Parties.map str)] [some ⟨2,12,[.agg [str e3.Id,I e3.Kind,I e3.Party,str e3.Action,I e3.Other,I e3.Amount,I e3.When.Op,str e3.When.Name,I e3.When.Day,.isl false (e3.When.Parts.map ac),I e3.Within,str e3.Repair]]⟩] 177 (by kernel_rfl) ?_
 refine oq 193 (I (len c_1.Parties)) rfl (aX rfl rfl rfl (bc rfl)) ?_
 refine cq 7 [6,17] [I (len c_1.Parties),str e3.Id] 241 ?_
 obtain⟨r4,hr4,h⟩:=bS h
 refine oq 257 (B r4) rfl (cP (ou hr4)) ?_
 refine cq 2 [20] [B (!r4)] 289 ?_
 obtain⟨y5,hy5,hy51,hy52⟩:=bJ h
 have j5:∀u5,y5=.inr u5→Run f7 0 (cM (c_1,i_2) r) (.code nZ::.code kO::[]) (sT 114 [(1,I i_2),(2,.hp 1 0 [] 2 0 0),(5,.hp 2 0 [] 12 0 0),(60,B u5)] [⟨0,2,[.agg [.isl false (c_1.Parties.map str),.isl false (c_1.Clauses.map aa)]]⟩,⟨0,12,[.agg [str e3.Id,I e3.Kind,I e3.Party,str e3.Action,I e3.Other,I e3.Amount,I e3.When.Op,str e3.When.Name,I e3.When.Day,.isl false (e3.When.Parts.map ac),I e3.Within,str e3.Repair]]⟩] 3):=by
  intro u5 hu
  replace h:=hy52 u5 hu
  refine sq h (fun h=>?_) fun h=>?_
  ·refine cq 4 [4] [B false] 19 ?_
   obtain rfl:=Option.some.inj h
   exact aj rfl (qp [B false])
  ·refine aq 1 ?_
   refine cq 5 [62] [I e3.Amount] 35 ?_
   obtain⟨r6,hr6,h⟩:=bS h
   refine oq 51 (B r6) rfl (cP (cW hr6)) ?_
   refine cq 2 [65] [B (!r6)] 83 ?_
   obtain⟨y7,hy7,hy71,hy72⟩:=bJ h
   have j7:∀u7,y7=.inr u7→Run f7 0 (cM (c_1,i_2) r) (.code uS::.code qd::[]) (sT 114 [(1,I i_2),(2,.hp 1 0 [] 2 0 0),(5,.hp 2 0 [] 12 0 0),(85,B u7)] [⟨0,2,[.agg [.isl false (c_1.Parties.map str),.isl false (c_1.Clauses.map aa)]]⟩,⟨0,12,[.agg [str e3.Id,I e3.Kind,I e3.Party,str e3.Action,I e3.Other,I e3.Amount,I e3.When.Op,str e3.When.Name,I e3.When.Day,.isl false (e3.When.Parts.map ac),I e3.Within,str e3.Repair]]⟩] 3):=by
    intro u7 hu
    replace h:=hy72 u7 hu
    refine sq h (fun h=>?_) fun h=>?_
    ·refine cq 4 [4] [B false] 19 ?_
     obtain rfl:=Option.some.inj h
     exact aj rfl (qp [B false])
    ·refine aq 1 ?_
     refine cq 7 [88] [B (e3.Repair==([]:ae))] 51 ?_
     refine sq h (fun h=>?_) fun h=>?_
     ·refine cq 4 [4] [B true] 67 ?_
      obtain rfl:=Option.some.inj h
      exact aj rfl (qp [B true])
     ·refine aq 1 ?_
      refine cq 5 [89,91] [.agg [.isl false (c_1.Parties.map str),.isl false (c_1.Clauses.map aa)],str e3.Repair] 99 ?_
      obtain⟨r8,hr8,h⟩:=bS h
      refine oq 115 (I r8) rfl (cP (HX hr8)) ?_
      refine cq 7 [7,95] [I r8,B (decide (r8≥0))] 179 ?_
      obtain⟨y9,hy9,hy91,hy92⟩:=bJ h
      have j9:∀u9,y9=.inr u9→Run f7 0 (cM (c_1,i_2) r) (.code Dd::[]) (sT 114 [(4,B u9)] [] 1):=by
       intro u9 hu
       replace h:=hy92 u9 hu
       obtain rfl:=Option.some.inj h
       exact aj rfl (qp [B u9])
      have r9:∀r',y9=.inl r'→∀st,cM (c_1,i_2) r' st→(cM (c_1,i_2) r) st:=fun r' e st hq=>by rw[hy91 r' e] at hq;exact hq
      replace h:=hy9
      refine sp 95 h rfl (fun h=>?_) fun h=>?_
      ·refine cq 5 [100] [B (r8 != i_2)] 259 ?_
       obtain⟨y10,hy10,hy101,hy102⟩:=bL h
       have j10:∀u10,y10=.inr u10→Run f7 0 (cM (c_1,i_2) r) (.code Dd::[]) (sT 114 [(4,B u10)] [] 1):=by
        intro u10 hu
        replace h:=hy102 u10 hu
        exact rf [4] [] (j9 _ (Option.some.inj h).symm :)
       have r10:∀r',y10=.inl r'→∀st,cM (c_1,i_2) r' st→(cM (c_1,i_2) r) st:=fun r' e st hq=>r9 r' (hy101 r' e) st hq
       replace h:=hy10
       refine sp 100 h rfl (fun h=>?_) fun h=>?_
       ·refine cq 3 [102,103] [.isl false (c_1.Clauses.map aa),I r8] 307 ?_
        obtain⟨e11,he11,h⟩:=bS h
        refine oy 323 (.iptr (.agg [str e11.Id,I e11.Kind,I e11.Party,str e11.Action,I e11.Other,I e11.Amount,I e11.When.Op,str e11.When.Name,I e11.When.Day,.isl false (e11.When.Parts.map ac),I e11.Within,str e11.Repair]) 0) rfl (ap rfl rfl rfl (aQ rfl rfl rfl rfl he11)) ?_
        refine cq 5 [109] [B (e11.Kind==1)] 403 ?_
        obtain⟨u12,hu12,h⟩:=lJ h
        have j12:Run f7 0 (cM (c_1,i_2) r) (.code Dd::[]) (sT 114 [(4,B u12)] [] 1):=by
         exact rf [4] [] (j10 _ (Option.some.inj h).symm :)
        replace h:=hu12
        clear hu12
        refine sp 109 h rfl (fun h=>?_) fun h=>?_
        ·refine cq 6 [4] [B (e3.Kind != 3)] 483 ?_
         subst h
         exact rf [4] [] (j12 :)
        ·refine cq 6 [4] [B false] 483 ?_
         subst h
         exact rf [4] [] (j12 :)
       ·refine cq 15 [4] [B false] 483 ?_
        exact rf [4] [] (j10 _ (Option.some.inj h).symm :)
      ·refine cq 20 [4] [B false] 483 ?_
       exact rf [4] [] (j9 _ (Option.some.inj h).symm :)
   have r7:∀r',y7=.inl r'→∀st,cM (c_1,i_2) r' st→(cM (c_1,i_2) r) st:=fun r' e st hq=>by rw[hy71 r' e] at hq;exact hq
   replace h:=hy7
   refine sp 65 h rfl (fun h=>?_) fun h=>?_
   ·refine cq 21 [85] [B true] 403 ?_
    exact rf [1,2,5,85] [1,2] (j7 _ (Option.some.inj h).symm :)
   ·refine cq 2 [67] [I e3.Within] 115 ?_
    obtain⟨r13,hr13,h⟩:=bS h
    refine oy 131 (B r13) rfl (cP (cW hr13)) ?_
    refine cq 3 [71] [B (!r13)] 179 ?_
    obtain⟨u14,hu14,h⟩:=lJ h
    have j14:Run f7 0 (cM (c_1,i_2) r) (.code uS::.code qd::[]) (sT 114 [(1,I i_2),(2,.hp 1 0 [] 2 0 0),(5,.hp 2 0 [] 12 0 0),(85,B u14)] [⟨0,2,[.agg [.isl false (c_1.Parties.map str),.isl false (c_1.Clauses.map aa)]]⟩,⟨0,12,[.agg [str e3.Id,I e3.Kind,I e3.Party,str e3.Action,I e3.Other,I e3.Amount,I e3.When.Op,str e3.When.Name,I e3.When.Day,.isl false (e3.When.Parts.map ac),I e3.Within,str e3.Repair]]⟩] 3):=by
     exact rf [1,2,5,85] [1,2] (j7 _ (Option.some.inj h).symm :)
    replace h:=hu14
    clear hu14
    refine sp 71 h rfl (fun h=>?_) fun h=>?_
    ·refine cq 15 [85] [B true] 403 ?_
     subst h
     exact rf [1,2,5,85] [1,2] (j14 :)
    ·refine cq 4 [75] [B (e3.Kind != 1)] 243 ?_
     obtain⟨u15,hu15,h⟩:=lJ h
     have j15:Run f7 0 (cM (c_1,i_2) r) (.code uS::.code qd::[]) (sT 114 [(1,I i_2),(2,.hp 1 0 [] 2 0 0),(5,.hp 2 0 [] 12 0 0),(85,B u15)] [⟨0,2,[.agg [.isl false (c_1.Parties.map str),.isl false (c_1.Clauses.map aa)]]⟩,⟨0,12,[.agg [str e3.Id,I e3.Kind,I e3.Party,str e3.Action,I e3.Other,I e3.Amount,I e3.When.Op,str e3.When.Name,I e3.When.Day,.isl false (e3.When.Parts.map ac),I e3.Within,str e3.Repair]]⟩] 3):=by
      subst h
      exact rf [1,2,5,85] [1,2] (j14 :)
     replace h:=hu15
     clear hu15
     refine sp 75 h rfl (fun h=>?_) fun h=>?_
     ·refine cq 4 [79] [B (e3.Amount != 0)] 307 ?_
      obtain⟨u16,hu16,h⟩:=lJ h
      have j16:Run f7 0 (cM (c_1,i_2) r) (.code uS::.code qd::[]) (sT 114 [(1,I i_2),(2,.hp 1 0 [] 2 0 0),(5,.hp 2 0 [] 12 0 0),(85,B u16)] [⟨0,2,[.agg [.isl false (c_1.Parties.map str),.isl false (c_1.Clauses.map aa)]]⟩,⟨0,12,[.agg [str e3.Id,I e3.Kind,I e3.Party,str e3.Action,I e3.Other,I e3.Amount,I e3.When.Op,str e3.When.Name,I e3.When.Day,.isl false (e3.When.Parts.map ac),I e3.Within,str e3.Repair]]⟩] 3):=by
       subst h
       exact rf [1,2,5,85] [1,2] (j15 :)
      replace h:=hu16
      clear hu16
      refine sp 79 h rfl (fun h=>?_) fun h=>?_
      ·refine cq 7 [85] [B true] 403 ?_
       subst h
       exact rf [1,2,5,85] [1,2] (j16 :)
      ·refine cq 7 [85] [B (e3.Within != 0)] 403 ?_
       subst h
       exact rf [1,2,5,85] [1,2] (j16 :)
     ·refine cq 11 [85] [B false] 403 ?_
      subst h
      exact rf [1,2,5,85] [1,2] (j15 :)
 have r5:∀r',y5=.inl r'→∀st,cM (c_1,i_2) r' st→(cM (c_1,i_2) r) st:=fun r' e st hq=>by rw[hy51 r' e] at hq;exact hq
 replace h:=hy5
 refine sp 20 h rfl (fun h=>?_) fun h=>?_
 ·refine cq 41 [60] [B true] 929 ?_
  exact rf [1,2,5,60] [1,113] (j5 _ (Option.some.inj h).symm :)
 ·refine cq 2 [22] [str e3.Action] 321 ?_
  obtain⟨r17,hr17,h⟩:=bS h
  refine oy 337 (B r17) rfl (cP (ou hr17)) ?_
  refine cq 3 [26] [B (!r17)] 385 ?_
  obtain⟨y18,hy18,hy181,hy182⟩:=bL h
  have j18:∀u18,y18=.inr u18→Run f7 0 (cM (c_1,i_2) r) (.code nZ::.code kO::[]) (sT 114 [(1,I i_2),(2,.hp 1 0 [] 2 0 0),(5,.hp 2 0 [] 12 0 0),(60,B u18)] [⟨0,2,[.agg [.isl false (c_1.Parties.map str),.isl false (c_1.Clauses.map aa)]]⟩,⟨0,12,[.agg [str e3.Id,I e3.Kind,I e3.Party,str e3.Action,I e3.Other,I e3.Amount,I e3.When.Op,str e3.When.Name,I e3.When.Day,.isl false (e3.When.Parts.map ac),I e3.Within,str e3.Repair]]⟩] 3):=by
   intro u18 hu
   replace h:=hy182 u18 hu
   exact rf [1,2,5,60] [1,2] (j5 _ (Option.some.inj h).symm :)
  have r18:∀r',y18=.inl r'→∀st,cM (c_1,i_2) r' st→(cM (c_1,i_2) r) st:=fun r' e st hq=>r5 r' (hy181 r' e) st hq
  replace h:=hy18
  refine sp 26 h rfl (fun h=>?_) fun h=>?_
  ·refine cq 35 [60] [B true] 929 ?_
   exact rf [1,2,5,60] [1,113] (j18 _ (Option.some.inj h).symm :)
  ·refine cq 2 [28] [I e3.Kind] 417 ?_
   obtain⟨r19,hr19,h⟩:=bS h
   refine oy 433 (B r19) rfl (cP (cW hr19)) ?_
   refine cq 3 [32] [B (!r19)] 481 ?_
   obtain⟨y20,hy20,hy201,hy202⟩:=bL h
   have j20:∀u20,y20=.inr u20→Run f7 0 (cM (c_1,i_2) r) (.code nZ::.code kO::[]) (sT 114 [(1,I i_2),(2,.hp 1 0 [] 2 0 0),(5,.hp 2 0 [] 12 0 0),(60,B u20)] [⟨0,2,[.agg [.isl false (c_1.Parties.map str),.isl false (c_1.Clauses.map aa)]]⟩,⟨0,12,[.agg [str e3.Id,I e3.Kind,I e3.Party,str e3.Action,I e3.Other,I e3.Amount,I e3.When.Op,str e3.When.Name,I e3.When.Day,.isl false (e3.When.Parts.map ac),I e3.Within,str e3.Repair]]⟩] 3):=by
    intro u20 hu
    replace h:=hy202 u20 hu
    exact rf [1,2,5,60] [1,2] (j18 _ (Option.some.inj h).symm :)
   have r20:∀r',y20=.inl r'→∀st,cM (c_1,i_2) r' st→(cM (c_1,i_2) r) st:=fun r' e st hq=>r18 r' (hy201 r' e) st hq
   replace h:=hy20
   refine sp 32 h rfl (fun h=>?_) fun h=>?_
   ·refine cq 29 [60] [B true] 929 ?_
    exact rf [1,2,5,60] [1,113] (j20 _ (Option.some.inj h).symm :)
   ·refine cq 4 [34,36] [I e3.Party,I (ar ((len c_1.Parties) - 1))] 545 ?_
    obtain⟨r21,hr21,h⟩:=bS h
    refine oy 561 (B r21) rfl (cP (cW hr21)) ?_
    refine cq 3 [40] [B (!r21)] 609 ?_
    obtain⟨y22,hy22,hy221,hy222⟩:=bL h
    have j22:∀u22,y22=.inr u22→Run f7 0 (cM (c_1,i_2) r) (.code nZ::.code kO::[]) (sT 114 [(1,I i_2),(2,.hp 1 0 [] 2 0 0),(5,.hp 2 0 [] 12 0 0),(60,B u22)] [⟨0,2,[.agg [.isl false (c_1.Parties.map str),.isl false (c_1.Clauses.map aa)]]⟩,⟨0,12,[.agg [str e3.Id,I e3.Kind,I e3.Party,str e3.Action,I e3.Other,I e3.Amount,I e3.When.Op,str e3.When.Name,I e3.When.Day,.isl false (e3.When.Parts.map ac),I e3.Within,str e3.Repair]]⟩] 3):=by
     intro u22 hu
     replace h:=hy222 u22 hu
     exact rf [1,2,5,60] [1,2] (j20 _ (Option.some.inj h).symm :)
    have r22:∀r',y22=.inl r'→∀st,cM (c_1,i_2) r' st→(cM (c_1,i_2) r) st:=fun r' e st hq=>r20 r' (hy221 r' e) st hq
    replace h:=hy22
    refine sp 40 h rfl (fun h=>?_) fun h=>?_
    ·refine cq 21 [60] [B true] 929 ?_
     exact rf [1,2,5,60] [1,113] (j22 _ (Option.some.inj h).symm :)
    ·refine cq 4 [42,44] [I e3.Other,I (ar ((len c_1.Parties) - 1))] 673 ?_
     obtain⟨r23,hr23,h⟩:=bS h
     refine oy 689 (B r23) rfl (cP (cW hr23)) ?_
     refine cq 3 [48] [B (!r23)] 737 ?_
     obtain⟨y24,hy24,hy241,hy242⟩:=bL h
     have j24:∀u24,y24=.inr u24→Run f7 0 (cM (c_1,i_2) r) (.code nZ::.code kO::[]) (sT 114 [(1,I i_2),(2,.hp 1 0 [] 2 0 0),(5,.hp 2 0 [] 12 0 0),(60,B u24)] [⟨0,2,[.agg [.isl false (c_1.Parties.map str),.isl false (c_1.Clauses.map aa)]]⟩,⟨0,12,[.agg [str e3.Id,I e3.Kind,I e3.Party,str e3.Action,I e3.Other,I e3.Amount,I e3.When.Op,str e3.When.Name,I e3.When.Day,.isl false (e3.When.Parts.map ac),I e3.Within,str e3.Repair]]⟩] 3):=by
      intro u24 hu
      replace h:=hy242 u24 hu
      exact rf [1,2,5,60] [1,2] (j22 _ (Option.some.inj h).symm :)
     have r24:∀r',y24=.inl r'→∀st,cM (c_1,i_2) r' st→(cM (c_1,i_2) r) st:=fun r' e st hq=>r22 r' (hy241 r' e) st hq
     replace h:=hy24
     refine sp 48 h rfl (fun h=>?_) fun h=>?_
     ·refine cq 13 [60] [B true] 929 ?_
      exact rf [1,2,5,60] [1,113] (j24 _ (Option.some.inj h).symm :)
     ·refine cq 7 [55] [B (e3.Party==e3.Other)] 849 ?_
      obtain⟨y25,hy25,hy251,hy252⟩:=bL h
      have j25:∀u25,y25=.inr u25→Run f7 0 (cM (c_1,i_2) r) (.code nZ::.code kO::[]) (sT 114 [(1,I i_2),(2,.hp 1 0 [] 2 0 0),(5,.hp 2 0 [] 12 0 0),(60,B u25)] [⟨0,2,[.agg [.isl false (c_1.Parties.map str),.isl false (c_1.Clauses.map aa)]]⟩,⟨0,12,[.agg [str e3.Id,I e3.Kind,I e3.Party,str e3.Action,I e3.Other,I e3.Amount,I e3.When.Op,str e3.When.Name,I e3.When.Day,.isl false (e3.When.Parts.map ac),I e3.Within,str e3.Repair]]⟩] 3):=by
       intro u25 hu
       replace h:=hy252 u25 hu
       exact rf [1,2,5,60] [1,2] (j24 _ (Option.some.inj h).symm :)
      have r25:∀r',y25=.inl r'→∀st,cM (c_1,i_2) r' st→(cM (c_1,i_2) r) st:=fun r' e st hq=>r24 r' (hy251 r' e) st hq
      replace h:=hy25
      refine sp 55 h rfl (fun h=>?_) fun h=>?_
      ·refine cq 6 [60] [B true] 929 ?_
       exact rf [1,2,5,60] [1,113] (j25 _ (Option.some.inj h).symm :)
      ·refine cq 2 [57] [.agg [I e3.When.Op,str e3.When.Name,I e3.When.Day,.isl false (e3.When.Parts.map ac)]] 881 ?_
       obtain⟨r26,hr26,h⟩:=bS h
       refine oy 897 (B r26) rfl (cP (U1 hr26)) ?_
       refine cq 3 [60] [B (!r26)] 929 ?_
       exact rf [1,2,5,60] [1,113] (j25 _ (Option.some.inj h).symm :)
theorem M5 {G:Go.Ln.Ground}:aI Tryz.prog G 141 yQ:=gT 2 0 (aD pt (aD eU (aD EM (aD Ph bg)))) (Checked.mixed Tryz.checked) Tryz.func141 (fun a r h=>Qr a.1 a.2 r h)
def CZ:((List ae)×ae)→List V:=cA (Ct 1 str) (oA str)
def zz (r:(List ae)):V×List V:=(.usl 1 (r.map str),[.dead])
noncomputable def rF:Ent:=aR [true,false] CZ zz fun x=>sX x.1 x.2
theorem Gh {l_8:List ae}{s_9:ae}{r}(h:sX l_8 s_9=some r):rF.F (CZ (l_8,s_9))=some (zz r):=aC (aY (nU bm) (aB bm)) h
noncomputable def oL:Code:=az Tryz.f180
noncomputable def tF:Env:=bF Tryz.prog []
def qJ (x:(List ae)×ae)(r:(List ae)):St→Prop:=QF tF Tryz.f180 [true,false] (CZ x) (zz r)
theorem Iv (l_8:List ae)(s_9:ae):cd tF 1 (qJ (l_8,s_9)) (cL (cL (cL (cR (cR oL))))) 0 (qv l_8 s_9) (fun u=>(sO 45 [(0,.hs 2 0 [] 1 0 (u.2.2.map str).length),(1,str u.1),(5,I u.2.1)] [none,some ⟨0,1,u.2.2.map str⟩] 3)) fun x3=>(sO 45 [(0,.hs 2 0 [] 1 0 (l_8.map str).length),(1,str s_9),(5,I x3)] [none,some ⟨0,1,l_8.map str⟩] 3):=dT (vW l_8 s_9) fun {Q K} hK self ih x3 y h hr hn=>by
 unfold ja at h
 refine cq 5 [6,7] [I x3,.hs 2 0 [] 1 0 (l_8.map str).length] 35 ?_
 refine oq 51 (I (len l_8)) rfl (aX rfl rfl rfl (vb (f:=str) (xs:=l_8) rfl rfl)) ?_
 refine cq 2 [10] [B (decide (x3<(len l_8)))] 83 ?_
 obtain⟨y4,hy4,hy41,hy42⟩:=bL h
 have j4:∀u4,y4=.inr u4→Run tF 1 Q (.code (cR (cL (cL (cL (cL (cR (cR oL)))))))::.code (cR (cL (cL (cL (cR (cR oL))))))::.lp (cL (cL (cL (cR (cR oL)))))::.blk 0::K) (sO 45 [(0,.hs 2 0 [] 1 0 (l_8.map str).length),(1,str s_9),(5,I x3),(17,B u4)] [none,some ⟨0,1,l_8.map str⟩] 3):=by
  intro u4 hu
  replace h:=hy42 u4 hu
  refine sq h (fun h=>?_) fun h=>?_
  ·refine aq 1 ?_
   refine cq 7 [5] [I (ar (x3+1))] 51 ?_
   refine cG ?_
   exact rg [0,1,5] [52,2] (ih _ _ h hr hn :)
  ·refine aq 1 ?_
   exact rg [0,1,5] [4,2] (hn _ (Option.some.inj h).symm :) (hk:=hK)
 have r4:∀r',y4=.inl r'→∀st,qJ (l_8,s_9) r' st→Q st:=fun r' e st hq=>hr r' (hy41 r' e) st hq
 replace h:=hy4
 refine sp 10 h rfl (fun h=>?_) fun h=>?_
 ·refine cq 2 [11,12] [.hs 2 0 [] 1 0 (l_8.map str).length,I x3] 115 ?_
  obtain⟨e5,he5,h⟩:=bS h
  refine oy 131 (.hp 2 0 [] 1 (0+Int.toNat x3) 0) rfl (ap rfl rfl rfl (gO (f:=str) (xs:=l_8) rfl rfl rfl he5)) ?_
  refine oy 147 (str e5) rfl (aM rfl (pk (path:=[]) rfl rfl rfl aZ (fO (f:=str) (xs:=l_8) he5) rfl rfl rfl)) ?_
  refine cq 4 [17] [B (Op.bytesLess e5 s_9)] 195 ?_
  exact rg [0,1,5,17] [196,2] (j4 _ (Option.some.inj h).symm :)
 ·refine cq 8 [17] [B false] 195 ?_
  exact rg [0,1,5,17] [196,2] (j4 _ (Option.some.inj h).symm :)
theorem QO (l_8:List ae)(s_9:ae)(r:(List ae))(h:sX l_8 s_9=some r):be tF Tryz.f180 [true,false] 1 (CZ (l_8,s_9)) (zz r):=by
 show Run _ _ (qJ (l_8,s_9) r) [.code oL] _
 refine rI 45 [(0,.hs 1 0 [] 1 0 (l_8.map str).length),(1,str s_9)] [(1,some ⟨0,1,l_8.map str⟩)] 2 ?_
 unfold sX at h
 refine cq 10 [5] [I (0)] 34 ?_
 obtain⟨y6,hy6,hy61,hy62⟩:=bJ h
 refine bG rfl ?_
 refine rg [0,1,5] [35,1] (Iv l_8 s_9 rfl 0 _ hy6 (fun r' e st hq=>by rw[hy61 r' e] at hq;exact hq) fun u6 hu=>?_)
 replace h:=hy62 u6 hu
 refine cq 5 [20,21] [I u6.2.1,.hs 2 0 [] 1 0 (u6.2.2.map str).length] 35 ?_
 refine oq 51 (I (len u6.2.2)) rfl (aX rfl rfl rfl (vb (f:=str) (xs:=u6.2.2) rfl rfl)) ?_
 refine cq 2 [24] [B (decide (u6.2.1<(len u6.2.2)))] 83 ?_
 obtain⟨y7,hy7,hy71,hy72⟩:=bJ h
 have j7:∀u7,y7=.inr u7→Run tF 1 (qJ (l_8,s_9) r) (.code (cR (cL (cR (cR (cR oL)))))::.code (cR (cR (cR (cR oL))))::[]) (sO 45 [(0,.hs 2 0 [] 1 0 (u6.2.2.map str).length),(1,str u6.1),(5,I u6.2.1),(31,B u7)] [none,some ⟨0,1,u6.2.2.map str⟩] 3):=by
  intro u7 hu
  replace h:=hy72 u7 hu
  refine sq h (fun h=>?_) fun h=>?_
  ·refine cq 5 [4] [.hs 2 0 [] 1 0 (u6.2.2.map str).length] 35 ?_
   obtain rfl:=Option.some.inj h
   exact aj rfl ⟨_,fin (vs:=[.hs 2 0 [] 1 0 (u6.2.2.map str).length]) rfl (fB (fk rfl (cN rfl rfl)) et) rfl (rG rfl (nM rfl) (eZ fK)),rR fD⟩
  ·refine aq 1 ?_
   refine aq 1 ?_
   refine d7 [0,0,0,6,15,0,32,127,0,0,768,2047,4095] rfl (by decide +kernel) ?_
   refine dq [] [] (.hs 3 0 [] 1 0 0) rfl (f9 rfl (su (f:=I) (xs:=[]) (z:=str ([])) (es:=[]) (ws:=[]) rfl rfl rfl (by decide) rfl (em rfl) rfl)) ?_
   refine dk 2 [35,34] [I u6.2.1,.hs 2 0 [] 1 0 (u6.2.2.map str).length] ?_
   obtain⟨s8,hs8,h⟩:=bS h
   refine dq [2] [] (.hs 2 0 [] 1 (0+Int.toNat (0)) (Int.toNat u6.2.1 - Int.toNat (0))) rfl (gf rfl rfl rfl rfl (qF (f:=str) (xs:=u6.2.2) rfl rfl rfl rfl rfl hs8)) ?_
   obtain⟨p9,hp9,h⟩:=bS h
   obtain⟨a10,ha10,h⟩:=bS h
   refine dq [3,2] [3] (.hs 67 0 [] 1 0 (a10.map str).length) rfl (ov rfl rfl rfl rfl rfl (tG (path:=[]) (es0:=[]) (f:=str) (xs:=([]:List ae)) (ys:=p9) rfl rfl (JU (path:=[]) (f:=str) (xs:=u6.2.2) rfl rfl aZ hp9 kA) rfl rfl rfl rfl rfl (by decide) jz ha10 rfl ym)) ?_ (Ff rfl (FE (path:=[]) (f:=str) (xs:=u6.2.2) rfl rfl aZ kA rfl))
   refine dk 1 [38] [str u6.1] ?_
   refine dq [] [] (.hs 99 0 [] 1 0 1) rfl (f9 rfl (su (f:=I) (xs:=[]) (z:=str ([])) (es:=[str u6.1]) (ws:=[str u6.1]) rfl rfl rfl (by decide) rfl (em rfl) rfl)) ?_
   obtain⟨a11,ha11,h⟩:=bS h
   refine dq [67,99] [67] (.hs 115 0 [] 1 0 (a11.map str).length) rfl (ov rfl rfl rfl rfl rfl (tG (path:=[]) (f:=str) (xs:=a10) (ys:=[u6.1]) rfl rfl (Db rfl rfl rfl) rfl rfl rfl aZ rfl (by decide) jz ha11 rfl ym)) ?_ (Ff rfl (FE (path:=[]) (f:=str) (xs:=[u6.1]) rfl rfl aZ kA rfl))
   refine dk 2 [42,41] [I u6.2.1,.hs 2 0 [] 1 0 (u6.2.2.map str).length] ?_
   obtain⟨s12,hs12,h⟩:=bS h
   refine dq [2] [] (.hs 2 0 [] 1 (0+Int.toNat u6.2.1) (Int.toNat (len u6.2.2) - Int.toNat u6.2.1)) rfl (gf rfl rfl rfl rfl (qF (f:=str) (xs:=u6.2.2) rfl rfl rfl rfl (RB rfl) hs12)) ?_
   obtain⟨p13,hp13,h⟩:=bS h
   obtain⟨a14,ha14,h⟩:=bS h
   refine dq [115,2] [115] (.hs 179 0 [] 1 0 (a14.map str).length) rfl (ov rfl rfl rfl rfl rfl (tG (path:=[]) (f:=str) (xs:=a11) (ys:=p13) rfl rfl (JU (path:=[]) (f:=str) (xs:=u6.2.2) rfl rfl aZ hp13 kA) rfl rfl rfl aZ rfl (by decide) jz ha14 rfl ym)) ?_ (Ff rfl (FE (path:=[]) (f:=str) (xs:=u6.2.2) rfl rfl aZ kA rfl))
   refine dk 1 [4] [.hs 179 0 [] 1 0 (a14.map str).length] ?_
   refine de 211 rfl rfl ?_
   obtain rfl:=Option.some.inj h
   exact aj rfl ⟨_,fin (vs:=[.hs 179 0 [] 1 0 (a14.map str).length]) rfl (fB (fk rfl (cN rfl rfl)) et) rfl (rG rfl (nM rfl) (eZ fK)),rR fD⟩
 have r7:∀r',y7=.inl r'→∀st,qJ (l_8,s_9) r' st→(qJ (l_8,s_9) r) st:=fun r' e st hq=>by rw[hy71 r' e] at hq;exact hq
 replace h:=hy7
 refine sp 24 h rfl (fun h=>?_) fun h=>?_
 ·refine cq 2 [25,26] [.hs 2 0 [] 1 0 (u6.2.2.map str).length,I u6.2.1] 115 ?_
  obtain⟨e15,he15,h⟩:=bS h
  refine oy 131 (.hp 2 0 [] 1 (0+Int.toNat u6.2.1) 0) rfl (ap rfl rfl rfl (gO (f:=str) (xs:=u6.2.2) rfl rfl rfl he15)) ?_
  refine oy 147 (str e15) rfl (aM rfl (pk (path:=[]) rfl rfl rfl aZ (fO (f:=str) (xs:=u6.2.2) he15) rfl rfl rfl)) ?_
  refine cq 4 [31] [B (e15==u6.1)] 195 ?_
  exact rg [0,1,5,31] [196,2] (j7 _ (Option.some.inj h).symm :)
 ·refine cq 8 [31] [B false] 195 ?_
  exact rg [0,1,5,31] [196,2] (j7 _ (Option.some.inj h).symm :)
theorem Ec {G:Go.Ln.Ground}:aI Tryz.prog G 180 rF:=gT 2 1 bg (Checked.mixed Tryz.checked) Tryz.func180 (fun a r h=>QO a.1 a.2 r h)
def tS:((List ae)×Condition)→List V:=cA (Ct 1 str) (oA aP)
def uF (r:(List ae)):V×List V:=(.usl 1 (r.map str),[.dead])
noncomputable def tR (slf_Ffdc:((List ae)×Condition)→Option (List ae)):Ent:=aR [true,false] tS uF slf_Ffdc
theorem JA (slf_Ffdc:((List ae)×Condition)→Option (List ae)){x}{r}(h:slf_Ffdc x=some r):(tR slf_Ffdc).F (tS x)=some (uF r):=aC (aY (nU bm) (aB cf)) h
noncomputable def xU:Ent:=tR (aJ jy)
theorem M4 {l_4:List ae}{c_5:Condition}{r}(h:Gw l_4 c_5=some r):xU.F (tS (l_4,c_5))=some (uF r):=JA (aJ jy) h
noncomputable def Nf:Code:=az Tryz.f179
noncomputable def Hn (slf_Ffdc:((List ae)×Condition)→Option (List ae)):Env:=bF Tryz.prog [(180,rF),(179,(tR slf_Ffdc))]
def Pk (slf_Ffdc:((List ae)×Condition)→Option (List ae))(x:(List ae)×Condition)(r:(List ae)):St→Prop:=QF (Hn slf_Ffdc) Tryz.f179 [true,false] (tS x) (uF r)
theorem IZ (slf_Ffdc:((List ae)×Condition)→Option (List ae))(l_4:List ae)(c_5:Condition):cd (Hn slf_Ffdc) 1 (Pk slf_Ffdc (l_4,c_5)) (cL (cL (cR (cL (cR (cR Nf)))))) 0 (jS slf_Ffdc l_4 c_5) (fun u=>(sO 28 [(0,.hs 2 0 [] 1 0 (u.map str).length)] [none,some ⟨0,1,u.map str⟩] 3)) fun x4=>(sO 28 [(0,.hs 2 0 [] 1 0 (x4.2.map str).length),(3,.hp 3 0 [] 4 0 0),(5,I x4.1)] [none,some ⟨0,1,x4.2.map str⟩,some ⟨0,4,[.agg [I c_5.Op,str c_5.Name,I c_5.Day,.isl false (c_5.Parts.map ac)]]⟩] 4):=dT (vL slf_Ffdc l_4 c_5) fun {Q K} hK self ih x4 y h hr hn=>by
 unfold hY at h
 refine cq 6 [13,15] [I x4.1,.isl false (c_5.Parts.map ac)] 52 ?_
 refine oq 68 (I (len c_5.Parts)) rfl (aX rfl rfl rfl (bc rfl)) ?_
 refine cq 2 [17] [B (decide (x4.1<(len c_5.Parts)))] 84 ?_
 refine sq h (fun h=>?_) fun h=>?_
 ·refine aq 1 ?_
  refine cq 7 [20,22,23] [.hs 2 0 [] 1 0 (x4.2.map str).length,.isl false (c_5.Parts.map ac),I x4.1] 148 ?_
  obtain⟨e5,he5,h⟩:=bS h
  refine oq 164 (.iptr (.agg [I e5.Op,str e5.Name,I e5.Day,.isl false (e5.Parts.map ac)]) 0) rfl (ap rfl rfl rfl (aQ rfl rfl (ce e5) rfl he5)) ?_
  refine cq 1 [25] [.agg [I e5.Op,str e5.Name,I e5.Day,.isl false (e5.Parts.map ac)]] 180 ?_
  obtain⟨r6,hr6,h⟩:=bS h
  refine oq 196 (.hs 180 0 [] 1 0 (r6.map str).length) rfl (co rfl rfl (cI rfl rfl rfl (sJ (pr rfl (ku (path:=[]) rfl rfl aZ rfl)) (b9 (cQ rfl) dD)) (JA slf_Ffdc hr6) (.inr rfl) (rM rfl rfl rfl kG d9) rfl rfl rfl)) ?_
  refine cq 8 [0,5] [.hs 180 0 [] 1 0 (r6.map str).length,I (ar (x4.1+1))] 260 ?_
  refine cG ?_
  exact rg [0,3,5] [261,180,3] (ih _ _ h hr hn :)
 ·refine aq 1 ?_
  exact rg [0] [85,2] (hn _ (Option.some.inj h).symm :) (hk:=hK)
theorem QB (slf_Ffdc:((List ae)×Condition)→Option (List ae))(l_4:List ae)(c_5:Condition)(r:(List ae))(h:qx slf_Ffdc l_4 c_5=some r):be (Hn slf_Ffdc) Tryz.f179 [true,false] 1 (tS (l_4,c_5)) (uF r):=by
 show Run _ _ (Pk slf_Ffdc (l_4,c_5) r) [.code Nf] _
 refine rI 28 [(0,.hs 1 0 [] 1 0 (l_4.map str).length),(1,.agg [I c_5.Op,str c_5.Name,I c_5.Day,.isl false (c_5.Parts.map ac)])] [(1,some ⟨0,1,l_4.map str⟩)] 2 ?_
 unfold qx at h
 refine ck 12 [3,8] [] [2] [] [.hp 2 0 [] 4 0 0,B (c_5.Op==2)] [some ⟨0,4,[.agg [I c_5.Op,str c_5.Name,I c_5.Day,.isl false (c_5.Parts.map ac)]]⟩] 82 (by kernel_rfl) ?_
 refine sq h (fun h=>?_) fun h=>?_
 ·refine cq 5 [9,11] [.hs 1 0 [] 1 0 (l_4.map str).length,str c_5.Name] 130 ?_
  obtain⟨r3,hr3,h⟩:=bS h
  refine oq 146 (.hs 130 0 [] 1 0 (r3.map str).length) rfl (co rfl rfl (cI rfl rfl rfl (sJ (pr rfl (ku (path:=[]) rfl rfl aZ rfl)) (b9 (cQ rfl) dD)) (Gh hr3) (.inr rfl) (rM rfl rfl rfl kG d9) rfl rfl rfl)) ?_
  refine cq 2 [4] [.hs 130 0 [] 1 0 (r3.map str).length] 162 ?_
  obtain rfl:=Option.some.inj h
  exact aj rfl ⟨_,fin (vs:=[.hs 130 0 [] 1 0 (r3.map str).length]) rfl (fB (fk rfl (cN rfl rfl)) et) rfl (rG rfl (nM rfl) (eZ fK)),rR fD⟩
 ·refine aq 1 ?_
  refine cq 6 [5] [I (0)] 98 ?_
  obtain⟨y7,hy7,hy71,hy72⟩:=bJ h
  refine bG rfl ?_
  refine rg [0,3,5] [99,1,2] (IZ slf_Ffdc l_4 c_5 rfl (0,l_4) _ hy7 (fun r' e st hq=>by rw[hy71 r' e] at hq;exact hq) fun u7 hu=>?_)
  replace h:=hy72 u7 hu
  refine cq 5 [4] [.hs 2 0 [] 1 0 (u7.map str).length] 35 ?_
  obtain rfl:=Option.some.inj h
  exact aj rfl ⟨_,fin (vs:=[.hs 2 0 [] 1 0 (u7.map str).length]) rfl (fB (fk rfl (cN rfl rfl)) et) rfl (rG rfl (nM rfl) (eZ fK)),rR fD⟩
theorem MP {G:Go.Ln.Ground}:aI Tryz.prog G 179 xU:=jx fun slf_Ffdc g_Ffdc=>gT 2 1 (aD Ec (aD g_Ffdc bg)) (Checked.mixed Tryz.checked) Tryz.func179 (fun a r h=>QB slf_Ffdc a.1 a.2 r h)
def CD:Contract→List V:=oA aG
def Cg (r:(List ae)):V×List V:=(.usl 1 (r.map str),[])
noncomputable def rl:Ent:=aR [false] CD Cg fun x=>nr x
theorem OV {c_1:Contract}{r}(h:nr c_1=some r):rl.F (CD c_1)=some (Cg r):=aC (aB aV) h
noncomputable def M9:Code:=az Tryz.f116
noncomputable def H2:Env:=bF Tryz.prog [(180,rF),(179,xU)]
def O8 (x:Contract)(r:(List ae)):St→Prop:=QF H2 Tryz.f116 [false] (CD x) (Cg r)
theorem Iw (c_1:Contract):cd H2 0 (O8 c_1) (cL (cL (cR (cL (cR (cR M9)))))) 0 (kH c_1) (fun u=>(sT 29 [(3,.hs 1 0 [] 1 0 (u.map str).length)] [⟨0,1,u.map str⟩] 2)) fun x2=>(sT 29 [(1,.hp 1 0 [] 2 0 0),(3,.hs 2 0 [] 1 0 (x2.2.map str).length),(4,I x2.1)] [⟨0,2,[.agg [.isl false (c_1.Parties.map str),.isl false (c_1.Clauses.map aa)]]⟩,⟨0,1,x2.2.map str⟩] 3):=dT (wr c_1) fun {Q K} hK self ih x2 y h hr hn=>by
 unfold jt at h
 refine cq 6 [6,8] [I x2.1,.isl false (c_1.Clauses.map aa)] 51 ?_
 refine oq 67 (I (len c_1.Clauses)) rfl (aX rfl rfl rfl (bc rfl)) ?_
 refine cq 2 [10] [B (decide (x2.1<(len c_1.Clauses)))] 83 ?_
 refine sq h (fun h=>?_) fun h=>?_
 ·refine aq 1 ?_
  refine aq 2 ?_
  refine d7 [0,0,2,0,14,30,62,127,0,256,0,1792,3840,7936,16383,32767] rfl (by decide +kernel) ?_
  refine dk 1 [13] [.hs 2 0 [] 1 0 (x2.2.map str).length] ?_
  refine dq [1] [] (.hp 1 0 [] 2 0 1) rfl (al rfl rfl rfl) ?_
  refine dq [1] [] (.isl false (c_1.Clauses.map aa)) rfl (aM rfl rfl) ?_
  refine dk 1 [16] [I x2.1] ?_
  obtain⟨e3,he3,h⟩:=bS h
  refine dq [] [] (.iptr (.agg [str e3.Id,I e3.Kind,I e3.Party,str e3.Action,I e3.Other,I e3.Amount,I e3.When.Op,str e3.When.Name,I e3.When.Day,.isl false (e3.When.Parts.map ac),I e3.Within,str e3.Repair]) 0) rfl (ap rfl rfl rfl (aQ rfl rfl rfl rfl he3)) ?_
  refine dq [] [] (.iptr (.agg [str e3.Id,I e3.Kind,I e3.Party,str e3.Action,I e3.Other,I e3.Amount,I e3.When.Op,str e3.When.Name,I e3.When.Day,.isl false (e3.When.Parts.map ac),I e3.Within,str e3.Repair]) 3) rfl (al rfl rfl rfl) ?_
  refine dq [] [] (str e3.Action) rfl (aM rfl rfl) ?_
  obtain⟨r4,hr4,h⟩:=bS h
  refine dq [2] [2] (.hs 195 0 [] 1 0 (r4.map str).length) rfl (co rfl rfl (cI rfl rfl rfl (sJ (pr rfl (ku (path:=[]) rfl rfl aZ rfl)) (b9 (cQ rfl) dD)) (Gh hr4) (.inr rfl) (rM rfl rfl rfl kG d9) rfl rfl rfl)) ?_ (dj rfl rfl rfl rfl (sJ (pr rfl (ku (path:=[]) rfl rfl aZ rfl)) (b9 (cQ rfl) dD)) (Gh hr4) (.inr rfl) rfl)
  refine dq [1] [] (.hp 1 0 [] 2 0 1) rfl (al rfl rfl rfl) ?_
  refine dq [1] [] (.isl false (c_1.Clauses.map aa)) rfl (aM rfl rfl) ?_
  refine dk 1 [23] [I x2.1] ?_
  obtain⟨e5,he5,h⟩:=bS h
  refine dq [] [] (.iptr (.agg [str e5.Id,I e5.Kind,I e5.Party,str e5.Action,I e5.Other,I e5.Amount,I e5.When.Op,str e5.When.Name,I e5.When.Day,.isl false (e5.When.Parts.map ac),I e5.Within,str e5.Repair]) 0) rfl (ap rfl rfl rfl (aQ rfl rfl rfl rfl he5)) ?_
  refine dq [] [] (.iptr (.agg [str e5.Id,I e5.Kind,I e5.Party,str e5.Action,I e5.Other,I e5.Amount,I e5.When.Op,str e5.When.Name,I e5.When.Day,.isl false (e5.When.Parts.map ac),I e5.Within,str e5.Repair]) 6) rfl (al rfl rfl rfl) ?_
  refine dq [] [] (.agg [I e5.When.Op,str e5.When.Name,I e5.When.Day,.isl false (e5.When.Parts.map ac)]) rfl (aM rfl rfl) ?_
  obtain⟨r6,hr6,h⟩:=bS h
  refine dq [195] [195] (.hs 307 0 [] 1 0 (r6.map str).length) rfl (co rfl rfl (cI rfl rfl rfl (sJ (pr rfl (ku (path:=[]) rfl rfl aZ rfl)) (b9 (cQ rfl) dD)) (M4 hr6) (.inr rfl) (rM rfl rfl rfl kG d9) rfl rfl rfl)) ?_ (dj rfl rfl rfl rfl (sJ (pr rfl (ku (path:=[]) rfl rfl aZ rfl)) (b9 (cQ rfl) dD)) (M4 hr6) (.inr rfl) rfl)
  refine dk 1 [3] [.hs 307 0 [] 1 0 (r6.map str).length] ?_
  refine de 339 rfl rfl ?_
  refine cq 6 [4] [I (ar (x2.1+1))] 387 ?_
  refine cG ?_
  exact rf [1,3,4] [1,307] (ih _ _ h hr hn :)
 ·refine aq 1 ?_
  exact rf [3] [2] (hn _ (Option.some.inj h).symm :) (hk:=hK)
theorem RD (c_1:Contract)(r:(List ae))(h:nr c_1=some r):be H2 Tryz.f116 [false] 0 (CD c_1) (Cg r):=by
 show Run _ _ (O8 c_1 r) [.code M9] _
 refine rI 29 [(0,.agg [.isl false (c_1.Parties.map str),.isl false (c_1.Clauses.map aa)])] [] 1 ?_
 unfold nr at h
 refine ck 7 [1] [] [1] [] [.hp 1 0 [] 2 0 0] [some ⟨0,2,[.agg [.isl false (c_1.Parties.map str),.isl false (c_1.Clauses.map aa)]]⟩] 33 (by kernel_rfl) ?_
 refine oq 49 (.hs 33 0 [] 1 0 0) rfl (f9 rfl (su (f:=I) (xs:=[]) (z:=str ([])) (es:=[]) (ws:=[]) rfl rfl rfl (by decide) rfl (em rfl) rfl)) ?_
 refine cq 8 [3,4] [.hs 33 0 [] 1 0 0,I (0)] 81 ?_
 obtain⟨y7,hy7,hy71,hy72⟩:=bJ h
 refine bG rfl ?_
 refine rf [1,3,4] [1,33] (Iw c_1 rfl (0,[]) _ hy7 (fun r' e st hq=>by rw[hy71 r' e] at hq;exact hq) fun u7 hu=>?_)
 replace h:=hy72 u7 hu
 refine cq 5 [2] [.hs 1 0 [] 1 0 (u7.map str).length] 34 ?_
 obtain rfl:=Option.some.inj h
 exact aj rfl ⟨_,fin (vs:=[.hs 1 0 [] 1 0 (u7.map str).length]) rfl (fB (fk rfl (cN rfl rfl)) et) rfl (eZ fK),fD⟩
theorem EG {G:Go.Ln.Ground}:aI Tryz.prog G 116 rl:=gT 1 0 (aD Ec (aD MP bg)) (Checked.mixed Tryz.checked) Tryz.func116 (fun a r h=>RD a r h)
def Cy:Contract→List V:=oA aG
def Ba (r:Bool):V×List V:=(B r,[])
noncomputable def xh:Ent:=aR [false] Cy Ba fun x=>yI x
theorem Vh {c_1:Contract}{r}(h:yI c_1=some r):xh.F (Cy c_1)=some (Ba r):=aC (aB aV) h
noncomputable def CH:Code:=az Tryz.f72
noncomputable abbrev uT:Code:=cL (cL (cR (cL (cR (cR CH)))))
noncomputable def tn:Env:=bF Tryz.prog [(73,ef),(140,sx),(141,yQ),(116,rl),(139,xi)]
def qR (x:Contract)(r:Bool):St→Prop:=QF tn Tryz.f72 [false] (Cy x) (Ba r)
theorem IJ (c_1:Contract):cd tn 0 (qR c_1) uT 0 (jQ c_1) (fun u=>(sT 41 [(1,.hp 1 0 [] 2 0 0)] [⟨0,2,[.agg [.isl false (c_1.Parties.map str),.isl false (c_1.Clauses.map aa)]]⟩] 2)) fun x4=>(sT 41 [(1,.hp 1 0 [] 2 0 0),(3,I x4)] [⟨0,2,[.agg [.isl false (c_1.Parties.map str),.isl false (c_1.Clauses.map aa)]]⟩] 2):=dT (wc c_1) fun {Q K} hK self ih x4 y h hr hn=>by
 unfold jk at h
 refine cq 6 [14,16] [I x4,.isl false (c_1.Clauses.map aa)] 50 ?_
 refine oq 66 (I (len c_1.Clauses)) rfl (aX rfl rfl rfl (bc rfl)) ?_
 refine cq 2 [18] [B (decide (x4<(len c_1.Clauses)))] 82 ?_
 refine sq h (fun h=>?_) fun h=>?_
 ·refine aq 1 ?_
  refine aq 3 ?_
  refine d7 [0,0,2,0,14,30,62,127,0,511,1023,2047,2047,8191,16383,32767] rfl (by decide +kernel) ?_
  refine dq [1] [] (.agg [.isl false (c_1.Parties.map str),.isl false (c_1.Clauses.map aa)]) rfl (aM rfl rfl) ?_
  refine dq [1] [] (.hp 1 0 [] 2 0 1) rfl (al rfl rfl rfl) ?_
  refine dq [1] [] (.isl false (c_1.Clauses.map aa)) rfl (aM rfl rfl) ?_
  refine dk 1 [24] [I x4] ?_
  obtain⟨e5,he5,h⟩:=bS h
  refine dq [] [] (.iptr (.agg [str e5.Id,I e5.Kind,I e5.Party,str e5.Action,I e5.Other,I e5.Amount,I e5.When.Op,str e5.When.Name,I e5.When.Day,.isl false (e5.When.Parts.map ac),I e5.Within,str e5.Repair]) 0) rfl (ap rfl rfl rfl (aQ rfl rfl rfl rfl he5)) ?_
  refine dq [] [] (.iptr (.agg [str e5.Id,I e5.Kind,I e5.Party,str e5.Action,I e5.Other,I e5.Amount,I e5.When.Op,str e5.When.Name,I e5.When.Day,.isl false (e5.When.Parts.map ac),I e5.Within,str e5.Repair]) 0) rfl (al rfl rfl rfl) ?_
  refine dq [] [] (str e5.Id) rfl (aM rfl rfl) ?_
  obtain⟨r6,hr6,h⟩:=bS h
  refine dq [] [] (I r6) rfl (cP (HX hr6)) ?_ (dj rfl rfl rfl rfl (b9 (cQ rfl) (b9 (cQ rfl) dD)) (HX hr6) (.inr rfl) rfl)
  refine dk 3 [31,30,29] [B (r6 != x4),B (r6 != x4),I x4] ?_
  obtain⟨y7,hy7,hy71,hy72⟩:=bL h
  have j7:∀u7,y7=.inr u7→Run tn 0 Q (.code (cR (cL (cL (cR uT))))::.blk 1::.code (cR (cR uT))::.lp uT::.blk 0::K) (sT 41 [(1,.hp 1 0 [] 2 0 0),(3,I x4),(36,B u7)] [⟨0,2,[.agg [.isl false (c_1.Parties.map str),.isl false (c_1.Clauses.map aa)]]⟩] 2):=by
   intro u7 hu
   replace h:=hy72 u7 hu
   refine sq h (fun h=>?_) fun h=>?_
   ·refine cq 4 [2] [B false] 18 ?_
    exact aj rfl (hr _ (Option.some.inj h).symm _ (qp [B false]))
   ·refine aq 1 ?_
    refine cq 6 [3] [I (ar (x4+1))] 50 ?_
    refine cG ?_
    exact rf [1,3] [1] (ih _ _ h hr hn :)
  have r7:∀r',y7=.inl r'→∀st,qR c_1 r' st→Q st:=fun r' e st hq=>hr r' (hy71 r' e) st hq
  replace h:=hy7
  refine sp 31 h rfl (fun h=>?_) fun h=>?_
  ·refine dk 5 [36,35,34,33,32] [B true,.und,.und,.und,.und] ?_
   refine de 338 rfl rfl ?_
   exact rf [1,3,36] [1] (j7 _ (Option.some.inj h).symm :)
  ·refine dy [1] [] (.agg [.isl false (c_1.Parties.map str),.isl false (c_1.Clauses.map aa)]) rfl (aM rfl rfl) ?_
   refine dk 1 [33] [I x4] ?_
   obtain⟨r8,hr8,h⟩:=bS h
   refine dy [] [] (B r8) rfl (cP (Mc hr8)) ?_ (dj rfl rfl rfl rfl (b9 (cQ rfl) (b9 (cQ rfl) dD)) (Mc hr8) (.inr rfl) rfl)
   refine dk 2 [36,35] [B (!r8),B (!r8)] ?_
   refine de 338 rfl rfl ?_
   exact rf [1,3,36] [1] (j7 _ (Option.some.inj h).symm :)
 ·refine aq 1 ?_
  exact rf [1] [1] (hn _ (Option.some.inj h).symm :) (hk:=hK)
theorem Rt (c_1:Contract)(r:Bool)(h:yI c_1=some r):be tn Tryz.f72 [false] 0 (Cy c_1) (Ba r):=by
 show Run _ _ (qR c_1 r) [.code CH] _
 refine rI 41 [(0,.agg [.isl false (c_1.Parties.map str),.isl false (c_1.Clauses.map aa)])] [] 1 ?_
 unfold yI at h
 refine ck 10 [1,5] [] [1] [] [.hp 1 0 [] 2 0 0,.isl false (c_1.Clauses.map aa)] [some ⟨0,2,[.agg [.isl false (c_1.Parties.map str),.isl false (c_1.Clauses.map aa)]]⟩] 65 (by kernel_rfl) ?_
 refine oq 81 (I (len c_1.Clauses)) rfl (aX rfl rfl rfl (bc rfl)) ?_
 obtain⟨r2,hr2,h⟩:=bS h
 refine oq 97 (B r2) rfl (cP (cW hr2)) ?_
 refine cq 2 [9] [B (!r2)] 129 ?_
 obtain⟨y3,hy3,hy31,hy32⟩:=bJ h
 have j3:∀u3,y3=.inr u3→Run tn 0 (qR c_1 r) (.code (cR (cL (cR CH)))::.code (cR (cR CH))::[]) (sT 41 [(1,.hp 1 0 [] 2 0 0),(13,B u3)] [⟨0,2,[.agg [.isl false (c_1.Parties.map str),.isl false (c_1.Clauses.map aa)]]⟩] 2):=by
  intro u3 hu
  replace h:=hy32 u3 hu
  refine sq h (fun h=>?_) fun h=>?_
  ·refine cq 4 [2] [B false] 18 ?_
   obtain rfl:=Option.some.inj h
   exact aj rfl (qp [B false])
  ·refine aq 1 ?_
   refine cq 6 [3] [I (0)] 18 ?_
   obtain⟨y9,hy9,hy91,hy92⟩:=bJ h
   refine bG rfl ?_
   refine rf [1,3] [1] (IJ c_1 rfl 0 _ hy9 (fun r' e st hq=>by rw[hy91 r' e] at hq;exact hq) fun u9 hu=>?_)
   replace h:=hy92 u9 hu
   refine cq 3 [37] [.agg [.isl false (c_1.Parties.map str),.isl false (c_1.Clauses.map aa)]] 18 ?_
   obtain⟨r10,hr10,h⟩:=bS h
   refine oq 34 (.hs 18 0 [] 1 0 (r10.map str).length) rfl (cP (OV hr10)) ?_
   refine oq 50 (I (len r10)) rfl (aX rfl rfl rfl (vb (f:=str) (xs:=r10) rfl rfl)) ?_
   refine cq 3 [2] [B (decide ((len r10)≤16))] 82 ?_
   obtain rfl:=Option.some.inj h
   exact aj rfl (qp [B (decide ((len r10)≤16))])
 have r3:∀r',y3=.inl r'→∀st,qR c_1 r' st→(qR c_1 r) st:=fun r' e st hq=>by rw[hy31 r' e] at hq;exact hq
 replace h:=hy3
 refine sp 9 h rfl (fun h=>?_) fun h=>?_
 ·refine cq 5 [13] [B true] 193 ?_
  exact rf [1,13] [1] (j3 _ (Option.some.inj h).symm :)
 ·refine cq 1 [10] [.agg [.isl false (c_1.Parties.map str),.isl false (c_1.Clauses.map aa)]] 145 ?_
  obtain⟨r11,hr11,h⟩:=bS h
  refine oy 161 (B r11) rfl (cP (Uh hr11)) ?_
  refine cq 3 [13] [B (!r11)] 193 ?_
  exact rf [1,13] [1] (j3 _ (Option.some.inj h).symm :)
theorem MI {G:Go.Ln.Ground}:aI Tryz.prog G 72 xh:=gT 1 0 (aD eU (aD EM (aD M5 (aD EG (aD O4 bg))))) (Checked.mixed Tryz.checked) Tryz.func72 (fun a r h=>Rt a r h)
def Bh:(List ae)→List V:=oA (ew str)
def zn (r:Bool):V×List V:=(B r,[])
noncomputable def xR:Ent:=aR [false] Bh zn fun x=>xV x
theorem U4 {list_1:List ae}{r}(h:xV list_1=some r):xR.F (Bh list_1)=some (zn r):=aC (aB (bz bm)) h
noncomputable def NQ:Code:=az Tryz.f115
noncomputable abbrev iJ:Code:=cL (cL (cR (cL (cR NQ))))
noncomputable def qi:Env:=bF Tryz.prog [(157,mu)]
def B0 (x:(List ae))(r:Bool):St→Prop:=QF qi Tryz.f115 [false] (Bh x) (zn r)
theorem Il (list_1:List ae):cd qi 0 (B0 list_1) iJ 0 (gh list_1) (fun u=>(sT 39 [(0,.isl false (list_1.map str))] [] 1)) fun x2=>(sT 39 [(0,.isl false (list_1.map str)),(3,I x2)] [] 1):=dT (ww list_1) fun {Q K} hK self ih x2 y h hr hn=>by
 unfold gZ at h
 refine cq 5 [4,5] [I x2,.isl false (list_1.map str)] 33 ?_
 refine oq 49 (I (len list_1)) rfl (aX rfl rfl rfl (bc rfl)) ?_
 refine cq 2 [8] [B (decide (x2<(len list_1)))] 81 ?_
 obtain⟨u3,hu3,h⟩:=lJ h
 have j3:Run qi 0 Q (.code (cR (cL iJ))::.code (cR iJ)::.lp iJ::.blk 0::K) (sT 39 [(0,.isl false (list_1.map str)),(3,I x2),(11,B u3)] [] 1):=by
  refine sq h (fun h=>?_) fun h=>?_
  ·refine aq 1 ?_
   refine aq 3 ?_
   refine d7 [0,0,3,7,15,31,63,127,255,511,1023,1023,3071,8191,16383,1023,1023,99327,230399,524287,1048575,2097151] rfl (by decide +kernel) ?_
   refine dk 2 [15,14] [I x2,.isl false (list_1.map str)] ?_
   obtain⟨e4,he4,h⟩:=bS h
   refine dq [] [] (.iptr (str e4) 0) rfl (ap rfl rfl rfl (aQ rfl rfl rfl rfl he4)) ?_
   refine dq [] [] (str e4) rfl (aM rfl rfl) ?_
   obtain⟨r5,hr5,h⟩:=bS h
   refine dq [] [] (B r5) rfl (cP (ou hr5)) ?_ (dj rfl rfl rfl rfl (b9 (cQ rfl) dD) (ou hr5) (.inr rfl) rfl)
   refine dk 2 [20,19] [B (!r5),B (!r5)] ?_
   obtain⟨y6,hy6,hy61,hy62⟩:=bL h
   have j6:∀u6,y6=.inr u6→Run qi 0 Q (.code (cR (cL (cL (cR iJ))))::.blk 1::.code (cR (cR iJ))::.lp iJ::.blk 0::K) (sT 39 [(0,.isl false (list_1.map str)),(3,I x2),(35,B u6)] [] 1):=by
    intro u6 hu
    replace h:=hy62 u6 hu
    refine sq h (fun h=>?_) fun h=>?_
    ·refine cq 4 [2] [B false] 17 ?_
     exact aj rfl (hr _ (Option.some.inj h).symm _ (qp [B false]))
    ·refine aq 1 ?_
     refine cq 6 [3] [I (ar (x2+1))] 49 ?_
     refine cG ?_
     exact rf [0,3] [] (ih _ _ h hr hn :)
   have r6:∀r',y6=.inl r'→∀st,B0 list_1 r' st→Q st:=fun r' e st hq=>hr r' (hy61 r' e) st hq
   replace h:=hy6
   refine sp 20 h rfl (fun h=>?_) fun h=>?_
   ·refine dk 15 [35,34,33,32,31,30,29,28,27,26,25,24,23,22,21] [B true,.und,.und,.und,.und,.und,.und,.und,.und,.und,.und,.und,.und,.und,.und] ?_
    refine de 353 rfl rfl ?_
    exact rf [0,3,35] [] (j6 _ (Option.some.inj h).symm :)
   ·refine dk 3 [23,22,21] [B (decide (x2>0)),B (decide (x2>0)),I x2] ?_
    obtain⟨y7,hy7,hy71,hy72⟩:=bL h
    have j7:∀u7,y7=.inr u7→Run qi 0 Q (.code (cR (cL (cL (cR iJ))))::.blk 1::.code (cR (cR iJ))::.lp iJ::.blk 0::K) (sT 39 [(0,.isl false (list_1.map str)),(3,I x2),(35,B u7)] [] 1):=by
     intro u7 hu
     replace h:=hy72 u7 hu
     exact rf [0,3,35] [] (j6 _ (Option.some.inj h).symm :)
    have r7:∀r',y7=.inl r'→∀st,B0 list_1 r' st→Q st:=fun r' e st hq=>r6 r' (hy71 r' e) st hq
    replace h:=hy7
    refine sp 23 h rfl (fun h=>?_) fun h=>?_
    ·refine dk 3 [26,25,24] [I (ar (x2 - 1)),I x2,.isl false (list_1.map str)] ?_
     obtain⟨e8,he8,h⟩:=bS h
     refine dy [] [] (.iptr (str e8) 0) rfl (ap rfl rfl rfl (aQ rfl rfl rfl rfl he8)) ?_
     refine dy [] [] (str e8) rfl (aM rfl rfl) ?_
     refine dk 2 [30,29] [I x2,.isl false (list_1.map str)] ?_
     obtain⟨e9,he9,h⟩:=bS h
     refine dy [] [] (.iptr (str e9) 0) rfl (ap rfl rfl rfl (aQ rfl rfl rfl rfl he9)) ?_
     refine dy [] [] (str e9) rfl (aM rfl rfl) ?_
     refine dk 3 [35,34,33] [B (!(Op.bytesLess e8 e9)),B (!(Op.bytesLess e8 e9)),B (!(Op.bytesLess e8 e9))] ?_
     refine de 353 rfl rfl ?_
     exact rf [0,3,35] [] (j7 _ (Option.some.inj h).symm :)
    ·refine dk 12 [35,34,33,32,31,30,29,28,27,26,25,24] [B false,B false,.und,.und,.und,.und,.und,.und,.und,.und,.und,.und] ?_
     refine de 353 rfl rfl ?_
     exact rf [0,3,35] [] (j7 _ (Option.some.inj h).symm :)
  ·refine aq 1 ?_
   exact rf [0] [] (hn _ (Option.some.inj h).symm :) (hk:=hK)
 replace h:=hu3
 clear hu3
 refine sp 8 h rfl (fun h=>?_) fun h=>?_
 ·refine cq 4 [11] [B (decide (x2≤16))] 129 ?_
  subst h
  exact rf [0,3,11] [] (j3 :)
 ·refine cq 4 [11] [B false] 129 ?_
  subst h
  exact rf [0,3,11] [] (j3 :)
theorem Rn (list_1:List ae)(r:Bool)(h:xV list_1=some r):be qi Tryz.f115 [false] 0 (Bh list_1) (zn r):=by
 show Run _ _ (B0 list_1 r) [.code NQ] _
 refine rI 39 [(0,.isl false (list_1.map str))] [] 1 ?_
 unfold xV at h
 refine cq 10 [3] [I (0)] 33 ?_
 obtain⟨y10,hy10,hy101,hy102⟩:=bJ h
 refine bG rfl ?_
 refine rf [0,3] [] (Il list_1 rfl 0 _ hy10 (fun r' e st hq=>by rw[hy101 r' e] at hq;exact hq) fun u10 hu=>?_)
 replace h:=hy102 u10 hu
 refine cq 3 [36] [.isl false (list_1.map str)] 17 ?_
 refine oq 33 (I (len list_1)) rfl (aX rfl rfl rfl (bc rfl)) ?_
 refine cq 3 [2] [B (decide ((len list_1)≤16))] 65 ?_
 obtain rfl:=Option.some.inj h
 exact aj rfl (qp [B (decide ((len list_1)≤16))])
theorem OU {G:Go.Ln.Ground}:aI Tryz.prog G 115 xR:=gT 1 0 (aD pt bg) (Checked.mixed Tryz.checked) Tryz.func115 (fun a r h=>Rn a r h)
def BL:(Contract×Int)→List V:=cA aG (oA I)
def AH (r:Bool):V×List V:=(B r,[])
noncomputable def yH:Ent:=aR [false,false] BL AH fun x=>yC x.1 x.2
theorem U9 {c_1:Contract}{i_2:Int}{r}(h:yC c_1 i_2=some r):yH.F (BL (c_1,i_2))=some (AH r):=aC (aY aV (aB bO)) h
noncomputable def Ov:Code:=az Tryz.f181
noncomputable def H0:Env:=bF Tryz.prog []
def LQ (x:Contract×Int)(r:Bool):St→Prop:=QF H0 Tryz.f181 [false,false] (BL x) (AH r)
theorem Ia (c_1:Contract)(i_2:Int):cd H0 0 (LQ (c_1,i_2)) (cL (cL (cR (cL (cR Ov))))) 0 (qq c_1 i_2) (fun u=>(sT 26 [] [] 1)) fun x3=>(sT 26 [(1,I i_2),(2,.hp 1 0 [] 2 0 0),(5,I x3)] [⟨0,2,[.agg [.isl false (c_1.Parties.map str),.isl false (c_1.Clauses.map aa)]]⟩] 2):=dT (vQ c_1 i_2) fun {Q K} hK self ih x3 y h hr hn=>by
 unfold kZ at h
 refine cq 6 [6,8] [I x3,.isl false (c_1.Clauses.map aa)] 50 ?_
 refine oq 66 (I (len c_1.Clauses)) rfl (aX rfl rfl rfl (bc rfl)) ?_
 refine cq 2 [10] [B (decide (x3<(len c_1.Clauses)))] 82 ?_
 refine sq h (fun h=>?_) fun h=>?_
 ·refine aq 1 ?_
  refine aq 3 ?_
  refine d7 [0,1,0,7,15,31,0,64,0,448,960,1984,4095] rfl (by decide +kernel) ?_
  refine dq [1] [] (.hp 1 0 [] 2 0 1) rfl (al rfl rfl rfl) ?_
  refine dq [1] [] (.isl false (c_1.Clauses.map aa)) rfl (aM rfl rfl) ?_
  refine dk 1 [15] [I x3] ?_
  obtain⟨e4,he4,h⟩:=bS h
  refine dq [] [] (.iptr (.agg [str e4.Id,I e4.Kind,I e4.Party,str e4.Action,I e4.Other,I e4.Amount,I e4.When.Op,str e4.When.Name,I e4.When.Day,.isl false (e4.When.Parts.map ac),I e4.Within,str e4.Repair]) 0) rfl (ap rfl rfl rfl (aQ rfl rfl rfl rfl he4)) ?_
  refine dq [] [] (.iptr (.agg [str e4.Id,I e4.Kind,I e4.Party,str e4.Action,I e4.Other,I e4.Amount,I e4.When.Op,str e4.When.Name,I e4.When.Day,.isl false (e4.When.Parts.map ac),I e4.Within,str e4.Repair]) 11) rfl (al rfl rfl rfl) ?_
  refine dq [] [] (str e4.Repair) rfl (aM rfl rfl) ?_
  refine dq [1] [] (.hp 1 0 [] 2 0 1) rfl (al rfl rfl rfl) ?_
  refine dq [1] [] (.isl false (c_1.Clauses.map aa)) rfl (aM rfl rfl) ?_
  refine dk 1 [21] [I i_2] ?_
  obtain⟨e5,he5,h⟩:=bS h
  refine dq [] [] (.iptr (.agg [str e5.Id,I e5.Kind,I e5.Party,str e5.Action,I e5.Other,I e5.Amount,I e5.When.Op,str e5.When.Name,I e5.When.Day,.isl false (e5.When.Parts.map ac),I e5.Within,str e5.Repair]) 0) rfl (ap rfl rfl rfl (aQ rfl rfl rfl rfl he5)) ?_
  refine dq [] [] (.iptr (.agg [str e5.Id,I e5.Kind,I e5.Party,str e5.Action,I e5.Other,I e5.Amount,I e5.When.Op,str e5.When.Name,I e5.When.Day,.isl false (e5.When.Parts.map ac),I e5.Within,str e5.Repair]) 0) rfl (al rfl rfl rfl) ?_
  refine dq [] [] (str e5.Id) rfl (aM rfl rfl) ?_
  refine dk 1 [25] [B (e4.Repair==e5.Id)] ?_
  refine de 290 rfl rfl ?_
  refine sq h (fun h=>?_) fun h=>?_
  ·refine cq 4 [4] [B true] 306 ?_
   exact aj rfl (hr _ (Option.some.inj h).symm _ (qp [B true]))
  ·refine aq 1 ?_
   refine cq 6 [5] [I (ar (x3+1))] 338 ?_
   refine cG ?_
   exact rf [1,2,5] [1] (ih _ _ h hr hn :)
 ·refine aq 1 ?_
  exact rf [] [] (hn _ (Option.some.inj h).symm :) (hk:=hK)
theorem PF (c_1:Contract)(i_2:Int)(r:Bool)(h:yC c_1 i_2=some r):be H0 Tryz.f181 [false,false] 0 (BL (c_1,i_2)) (AH r):=by
 show Run _ _ (LQ (c_1,i_2) r) [.code Ov] _
 refine rI 26 [(0,.agg [.isl false (c_1.Parties.map str),.isl false (c_1.Clauses.map aa)]),(1,I i_2)] [] 1 ?_
 unfold yC at h
 refine ck 11 [2,5] [] [1] [] [.hp 1 0 [] 2 0 0,I (0)] [some ⟨0,2,[.agg [.isl false (c_1.Parties.map str),.isl false (c_1.Clauses.map aa)]]⟩] 49 (by kernel_rfl) ?_
 obtain⟨y6,hy6,hy61,hy62⟩:=bJ h
 refine bG rfl ?_
 refine rf [1,2,5] [1] (Ia c_1 i_2 rfl 0 _ hy6 (fun r' e st hq=>by rw[hy61 r' e] at hq;exact hq) fun u6 hu=>?_)
 replace h:=hy62 u6 hu
 refine cq 4 [4] [B false] 17 ?_
 obtain rfl:=Option.some.inj h
 exact aj rfl (qp [B false])
theorem Pe {G:Go.Ln.Ground}:aI Tryz.prog G 181 yH:=gT 2 0 bg (Checked.mixed Tryz.checked) Tryz.func181 (fun a r h=>PF a.1 a.2 r h)
def zk:(State×Int)→List V:=cA bX (oA I)
def CI (r:Int):V×List V:=(I r,[])
noncomputable def xd:Ent:=aR [false,false] zk CI fun x=>xN x.1 x.2
theorem UY {s_1:State}{i_2:Int}{r}(h:xN s_1 i_2=some r):xd.F (zk (s_1,i_2))=some (CI r):=aC (aY cY (aB bO)) h
noncomputable def LL:Code:=az Tryz.f182
noncomputable abbrev C5:Code:=cL (cL (cR (cL (cR (cR LL)))))
noncomputable def BP:Env:=bF Tryz.prog []
def Mq (x:State×Int)(r:Int):St→Prop:=QF BP Tryz.f182 [false,false] (zk x) (CI r)
theorem IM (s_1:State)(i_2:Int):cd BP 0 (Mq (s_1,i_2)) C5 0 (jU s_1 i_2) (fun u=>(sT 25 [(5,I u)] [] 1)) fun x3=>(sT 25 [(1,I i_2),(2,.hp 1 0 [] 5 0 0),(5,I x3.1),(6,I x3.2)] [⟨0,5,[.agg [I s_1.Day,.isl false (s_1.Facts.map str),.isl false (s_1.Duties.map ah),.isl false (s_1.Balances.map I),B s_1.Over]]⟩] 2):=dT (vR s_1 i_2) fun {Q K} hK self ih x3 y h hr hn=>by
 unfold jG at h
 refine cq 6 [7,9] [I x3.2,.isl false (s_1.Duties.map ah)] 50 ?_
 refine oq 66 (I (len s_1.Duties)) rfl (aX rfl rfl rfl (bc rfl)) ?_
 refine cq 2 [11] [B (decide (x3.2<(len s_1.Duties)))] 82 ?_
 refine sq h (fun h=>?_) fun h=>?_
 ·refine aq 1 ?_
  refine cq 7 [15,16] [.isl false (s_1.Duties.map ah),I x3.2] 130 ?_
  obtain⟨e4,he4,h⟩:=bS h
  refine oq 146 (.iptr (ah e4) 0) rfl (ap rfl rfl rfl (aQ rfl rfl rfl rfl he4)) ?_
  refine cq 5 [21] [B (e4.Clause==i_2)] 210 ?_
  obtain⟨u5,hu5,h⟩:=lJ h
  have j5:Run BP 0 Q (.blk 1::.code (cR (cR C5))::.lp C5::.blk 0::K) (sT 25 [(1,I i_2),(2,.hp 1 0 [] 5 0 0),(5,I u5),(6,I x3.2)] [⟨0,5,[.agg [I s_1.Day,.isl false (s_1.Facts.map str),.isl false (s_1.Duties.map ah),.isl false (s_1.Balances.map I),B s_1.Over]]⟩] 2):=by
   refine cq 6 [6] [I (ar (x3.2+1))] 50 ?_
   refine cG ?_
   exact rf [1,2,5,6] [1] (ih _ _ h hr hn :)
  replace h:=hu5
  clear hu5
  refine wu h rfl rfl (fun h=>?_) fun h=>?_
  ·refine cq 5 [5] [I (ar (x3.1+1))] 258 ?_
   subst h
   exact rf [1,2,5,6] [1] (j5 :)
  ·refine aq 1 ?_
   subst h
   exact rf [1,2,5,6] [1] (j5 :)
 ·refine aq 1 ?_
  exact rf [5] [] (hn _ (Option.some.inj h).symm :) (hk:=hK)
theorem Q8 (s_1:State)(i_2:Int)(r:Int)(h:xN s_1 i_2=some r):be BP Tryz.f182 [false,false] 0 (zk (s_1,i_2)) (CI r):=by
 show Run _ _ (Mq (s_1,i_2) r) [.code LL] _
 refine rI 25 [(0,.agg [I s_1.Day,.isl false (s_1.Facts.map str),.isl false (s_1.Duties.map ah),.isl false (s_1.Balances.map I),B s_1.Over]),(1,I i_2)] [] 1 ?_
 unfold xN at h
 refine ck 15 [2,5,6] [] [1] [] [.hp 1 0 [] 5 0 0,I (0),I (0)] [some ⟨0,5,[.agg [I s_1.Day,.isl false (s_1.Facts.map str),.isl false (s_1.Duties.map ah),.isl false (s_1.Balances.map I),B s_1.Over]]⟩] 65 (by kernel_rfl) ?_
 obtain⟨y6,hy6,hy61,hy62⟩:=bJ h
 refine bG rfl ?_
 refine rf [1,2,5,6] [1] (IM s_1 i_2 rfl (0,0) _ hy6 (fun r' e st hq=>by rw[hy61 r' e] at hq;exact hq) fun u6 hu=>?_)
 replace h:=hy62 u6 hu
 refine cq 5 [4] [I u6] 33 ?_
 obtain rfl:=Option.some.inj h
 exact aj rfl (qp [I u6])
theorem M1 {G:Go.Ln.Ground}:aI Tryz.prog G 182 xd:=gT 2 0 bg (Checked.mixed Tryz.checked) Tryz.func182 (fun a r h=>Q8 a.1 a.2 r h)
def AF:(Contract×State×Int)→List V:=cA aG (cA bX (oA I))
def Av (r:Bool):V×List V:=(B r,[])
noncomputable def wS:Ent:=aR [false,false,false] AF Av fun x=>wD x.1 x.2.1 x.2.2
theorem VL {c_1:Contract}{s_2:State}{k_3:Int}{r}(h:wD c_1 s_2 k_3=some r):wS.F (AF (c_1,s_2,k_3))=some (Av r):=aC (aY aV (aY cY (aB bO))) h
noncomputable def HL:Code:=az Tryz.f118
noncomputable abbrev mr:Code:=cR (cR (cR HL))
noncomputable abbrev qI:Code:=cR (cL (cR (cR HL)))
noncomputable abbrev cX:Code:=cR mr
noncomputable abbrev di:Code:=cR (cL mr)
noncomputable def cJ:Env:=bF Tryz.prog [(73,ef),(181,yH),(182,xd),(114,oK)]
def bZ (x:Contract×State×Int)(r:Bool):St→Prop:=QF cJ Tryz.f118 [false,false,false] (AF x) (Av r)
theorem Rc (c_1:Contract)(s_2:State)(k_3:Int)(r:Bool)(h:wD c_1 s_2 k_3=some r):be cJ Tryz.f118 [false,false,false] 0 (AF (c_1,s_2,k_3)) (Av r):=by
 show Run _ _ (bZ (c_1,s_2,k_3) r) [.code HL] _
 refine rI 129 [(0,.agg [.isl false (c_1.Parties.map str),.isl false (c_1.Clauses.map aa)]),(1,.agg [I s_2.Day,.isl false (s_2.Facts.map str),.isl false (s_2.Duties.map ah),.isl false (s_2.Balances.map I),B s_2.Over]),(2,I k_3)] [] 1 ?_
 unfold wD at h
 refine ck 11 [3,4,9,10] [] [1,17] [] [.hp 1 0 [] 2 0 0,.hp 17 0 [] 5 0 0,.isl false (s_2.Duties.map ah),I k_3] [some ⟨0,2,[.agg [.isl false (c_1.Parties.map str),.isl false (c_1.Clauses.map aa)]]⟩,some ⟨0,5,[.agg [I s_2.Day,.isl false (s_2.Facts.map str),.isl false (s_2.Duties.map ah),.isl false (s_2.Balances.map I),B s_2.Over]]⟩] 97 (by kernel_rfl) ?_
 obtain⟨e4,he4,h⟩:=bS h
 refine oq 113 (.iptr (ah e4) 0) rfl (ap rfl rfl rfl (aQ rfl rfl rfl rfl he4)) ?_
 refine ck 6 [7] [] [129] [] [.hp 129 0 [] 4 0 0] [some ⟨0,4,[ah e4]⟩] 161 (by kernel_rfl) ?_
 refine d7 [0,1,0,4,12,28,63,127,255,511,1023,511,2559,8191,16383,32767,65535,131071,262143,524287,1048575,524287,2621439,8388607,16777215,33554431,67108863,134217727,268435455,134217727,671088639,134217727,2281701375,134217727,8724152319,32346472447,66706210815,135425687551,274475253759,549755813887,1099511627775,2199023255551,4398046511103,8796093022207,17592186044415,35184372088831,70368744177663,140737488355327,281474976710655,562949953421311,1125899906842623,2251799813685247,4503599627370495] rfl (by decide +kernel) ?_
 refine dq [129] [] (.hp 129 0 [] 4 0 0) rfl (al rfl rfl rfl) ?_
 refine dq [129] [] (I e4.Clause) rfl (aM rfl rfl) ?_
 refine dq [1] [] (.hp 1 0 [] 2 0 1) rfl (al rfl rfl rfl) ?_
 refine dq [1] [] (.isl false (c_1.Clauses.map aa)) rfl (aM rfl rfl) ?_
 refine dq [] [] (I (len c_1.Clauses)) rfl (aX rfl rfl rfl (bc rfl)) ?_
 refine dk 1 [18] [I (ar ((len c_1.Clauses) - 1))] ?_
 obtain⟨r5,hr5,h⟩:=bS h
 refine dq [] [] (B r5) rfl (cP (cW hr5)) ?_ (dj rfl rfl rfl rfl (b9 (cQ rfl) (b9 (cQ rfl) (b9 (cQ rfl) dD))) (cW hr5) (.inr rfl) rfl)
 refine dk 2 [21,20] [B (!r5),B (!r5)] ?_
 obtain⟨y6,hy6,hy61,hy62⟩:=bJ h
 have j6:∀u6,y6=.inr u6→Run cJ 0 (bZ (c_1,s_2,k_3) r) (.code qI::.code mr::[]) (sT 129 [(2,I k_3),(3,.hp 1 0 [] 2 0 0),(4,.hp 2 0 [] 5 0 0),(7,.hp 3 0 [] 4 0 0),(65,B u6)] [⟨0,2,[.agg [.isl false (c_1.Parties.map str),.isl false (c_1.Clauses.map aa)]]⟩,⟨0,5,[.agg [I s_2.Day,.isl false (s_2.Facts.map str),.isl false (s_2.Duties.map ah),.isl false (s_2.Balances.map I),B s_2.Over]]⟩,⟨0,4,[ah e4]⟩] 4):=by
  intro u6 hu
  replace h:=hy62 u6 hu
  refine sq h (fun h=>?_) fun h=>?_
  ·refine cq 4 [6] [B false] 20 ?_
   obtain rfl:=Option.some.inj h
   exact aj rfl (qp [B false])
  ·refine aq 1 ?_
   refine aq 2 ?_
   refine d7 [0,1,3,7,15,7,39,127,255,511,7,1031,4095,8191,16383,32767,65535,131071,262143,524287,1048575,524287,2621439,8388607,16777215,33554431,67108863,134217727,268435455,536870911,1073741823,2147483647,4294967295,8589934591,17179869183,34359738367,68719476735,34359738367,171798691839,549755813887,1099511627775,2199023255551,4398046511103,8796093022207,17592186044415,35184372088831,70368744177663,140737488355327,281474976710655,562949953421311,1125899906842623,2251799813685247] rfl (by decide +kernel) ?_
   refine dk 3 [68,67,66] [B (decide (k_3>0)),B (decide (k_3>0)),I k_3] ?_
   obtain⟨y7,hy7,hy71,hy72⟩:=bJ h
   have j7:∀u7,y7=.inr u7→Run cJ 0 (bZ (c_1,s_2,k_3) r) (.code di::.code cX::[]) (sT 129 [(3,.hp 1 0 [] 2 0 0),(4,.hp 2 0 [] 5 0 0),(7,.hp 3 0 [] 4 0 0),(117,B u7)] [⟨0,2,[.agg [.isl false (c_1.Parties.map str),.isl false (c_1.Clauses.map aa)]]⟩,⟨0,5,[.agg [I s_2.Day,.isl false (s_2.Facts.map str),.isl false (s_2.Duties.map ah),.isl false (s_2.Balances.map I),B s_2.Over]]⟩,⟨0,4,[ah e4]⟩] 4):=by
    intro u7 hu
    replace h:=hy72 u7 hu
    refine sq h (fun h=>?_) fun h=>?_
    ·refine cq 4 [6] [B false] 20 ?_
     obtain rfl:=Option.some.inj h
     exact aj rfl (qp [B false])
    ·refine aq 1 ?_
     refine cq 5 [118,120] [.agg [.isl false (c_1.Parties.map str),.isl false (c_1.Clauses.map aa)],I e4.Clause] 52 ?_
     obtain⟨r8,hr8,h⟩:=bS h
     refine oq 68 (B r8) rfl (cP (U9 hr8)) ?_
     refine cq 1 [122] [B r8] 84 ?_
     obtain⟨y9,hy9,hy91,hy92⟩:=bJ h
     have j9:∀u9,y9=.inr u9→Run cJ 0 (bZ (c_1,s_2,k_3) r) (.code (cR cX)::[]) (sT 129 [(6,B u9)] [] 1):=by
      intro u9 hu
      replace h:=hy92 u9 hu
      obtain rfl:=Option.some.inj h
      exact aj rfl (qp [B u9])
     have r9:∀r',y9=.inl r'→∀st,bZ (c_1,s_2,k_3) r' st→(bZ (c_1,s_2,k_3) r) st:=fun r' e st hq=>by rw[hy91 r' e] at hq;exact hq
     replace h:=hy9
     refine sp 122 h rfl (fun h=>?_) fun h=>?_
     ·refine cq 8 [6] [B true] 196 ?_
      exact rf [6] [] (j9 _ (Option.some.inj h).symm :)
     ·refine cq 3 [123,125] [.agg [I s_2.Day,.isl false (s_2.Facts.map str),.isl false (s_2.Duties.map ah),.isl false (s_2.Balances.map I),B s_2.Over],I e4.Clause] 132 ?_
      obtain⟨r10,hr10,h⟩:=bS h
      refine oy 148 (I r10) rfl (cP (UY hr10)) ?_
      refine cq 4 [6] [B (r10==1)] 196 ?_
      exact rf [6] [] (j9 _ (Option.some.inj h).symm :)
   have r7:∀r',y7=.inl r'→∀st,bZ (c_1,s_2,k_3) r' st→(bZ (c_1,s_2,k_3) r) st:=fun r' e st hq=>by rw[hy71 r' e] at hq;exact hq
   replace h:=hy7
   refine sp 68 h rfl (fun h=>?_) fun h=>?_
   ·refine dy [2] [] (.hp 2 0 [] 5 0 2) rfl (al rfl rfl rfl) ?_
    refine dy [2] [] (.isl false (s_2.Duties.map ah)) rfl (aM rfl rfl) ?_
    refine dk 2 [72,71] [I (ar (k_3 - 1)),I k_3] ?_
    obtain⟨e11,he11,h⟩:=bS h
    refine dy [] [] (.iptr (ah e11) 0) rfl (ap rfl rfl rfl (aQ rfl rfl rfl rfl he11)) ?_
    refine dy [] [] (.iptr (ah e11) 1) rfl (al rfl rfl rfl) ?_
    refine dy [] [] (I e11.Since) rfl (aM rfl rfl) ?_
    refine dy [3] [] (.hp 3 0 [] 4 0 1) rfl (al rfl rfl rfl) ?_
    refine dy [3] [] (I e4.Since) rfl (aM rfl rfl) ?_
    refine dk 3 [80,79,78] [B (decide (e11.Since>e4.Since)),B (decide (e11.Since>e4.Since)),B (decide (e11.Since>e4.Since))] ?_
    obtain⟨u12,hu12,h⟩:=lJ h
    have j12:Run cJ 0 (bZ (c_1,s_2,k_3) r) (.code di::.code cX::[]) (sT 129 [(3,.hp 1 0 [] 2 0 0),(4,.hp 2 0 [] 5 0 0),(7,.hp 3 0 [] 4 0 0),(117,B u12)] [⟨0,2,[.agg [.isl false (c_1.Parties.map str),.isl false (c_1.Clauses.map aa)]]⟩,⟨0,5,[.agg [I s_2.Day,.isl false (s_2.Facts.map str),.isl false (s_2.Duties.map ah),.isl false (s_2.Balances.map I),B s_2.Over]]⟩,⟨0,4,[ah e4]⟩] 4):=by
     exact rf [3,4,7,117] [1,2,3] (j7 _ (Option.some.inj h).symm :)
    replace h:=hu12
    clear hu12
    refine sp 80 h rfl (fun h=>?_) fun h=>?_
    ·refine dk 37 [117,116,115,114,113,112,111,110,109,108,107,106,105,104,103,102,101,100,99,98,97,96,95,94,93,92,91,90,89,88,87,86,85,84,83,82,81] [B true,.und,.und,.und,.und,.und,.und,.und,.und,B true,B true,.und,.und,.und,.und,.und,.und,.und,.und,.und,.und,B true,B true,.und,.und,.und,.und,.und,.und,.und,.und,.und,.und,.und,.und,.und,.und] ?_
     refine de 836 rfl rfl ?_
     subst h
     exact rf [3,4,7,117] [1,2,3] (j12 :)
    ·refine dy [3] [] (.hp 3 0 [] 4 0 3) rfl (al rfl rfl rfl) ?_
     refine dy [3] [] (I e4.Status) rfl (aM rfl rfl) ?_
     refine dk 2 [84,83] [B (e4.Status==1),B (e4.Status==1)] ?_
     obtain⟨u13,hu13,h⟩:=lJ h
     have j13:Run cJ 0 (bZ (c_1,s_2,k_3) r) (.code di::.code cX::[]) (sT 129 [(3,.hp 1 0 [] 2 0 0),(4,.hp 2 0 [] 5 0 0),(7,.hp 3 0 [] 4 0 0),(117,B u13)] [⟨0,2,[.agg [.isl false (c_1.Parties.map str),.isl false (c_1.Clauses.map aa)]]⟩,⟨0,5,[.agg [I s_2.Day,.isl false (s_2.Facts.map str),.isl false (s_2.Duties.map ah),.isl false (s_2.Balances.map I),B s_2.Over]]⟩,⟨0,4,[ah e4]⟩] 4):=by
      subst h
      exact rf [3,4,7,117] [1,2,3] (j12 :)
     replace h:=hu13
     clear hu13
     refine sp 84 h rfl (fun h=>?_) fun h=>?_
     ·refine dy [3] [] (.hp 3 0 [] 4 0 2) rfl (al rfl rfl rfl) ?_
      refine dy [3] [] (I e4.Due) rfl (aM rfl rfl) ?_
      refine dy [2] [] (.hp 2 0 [] 5 0 0) rfl (al rfl rfl rfl) ?_
      refine dy [2] [] (I s_2.Day) rfl (aM rfl rfl) ?_
      refine dk 2 [90,89] [B (decide (e4.Due<s_2.Day)),B (decide (e4.Due<s_2.Day))] ?_
      obtain⟨u14,hu14,h⟩:=lJ h
      have j14:Run cJ 0 (bZ (c_1,s_2,k_3) r) (.code di::.code cX::[]) (sT 129 [(3,.hp 1 0 [] 2 0 0),(4,.hp 2 0 [] 5 0 0),(7,.hp 3 0 [] 4 0 0),(117,B u14)] [⟨0,2,[.agg [.isl false (c_1.Parties.map str),.isl false (c_1.Clauses.map aa)]]⟩,⟨0,5,[.agg [I s_2.Day,.isl false (s_2.Facts.map str),.isl false (s_2.Duties.map ah),.isl false (s_2.Balances.map I),B s_2.Over]]⟩,⟨0,4,[ah e4]⟩] 4):=by
       subst h
       exact rf [3,4,7,117] [1,2,3] (j13 :)
      replace h:=hu14
      clear hu14
      refine sp 90 h rfl (fun h=>?_) fun h=>?_
      ·refine dk 27 [117,116,115,114,113,112,111,110,109,108,107,106,105,104,103,102,101,100,99,98,97,96,95,94,93,92,91] [B true,.und,.und,.und,.und,.und,.und,.und,.und,B true,B true,.und,.und,.und,.und,.und,.und,.und,.und,.und,.und,B true,B true,B true,B true,.und,.und] ?_
       refine de 836 rfl rfl ?_
       subst h
       exact rf [3,4,7,117] [1,2,3] (j14 :)
      ·refine dy [2] [] (.hp 2 0 [] 5 0 4) rfl (al rfl rfl rfl) ?_
       refine dy [2] [] (B s_2.Over) rfl (aM rfl rfl) ?_
       refine dk 4 [96,95,94,93] [B s_2.Over,B s_2.Over,B s_2.Over,B s_2.Over] ?_
       obtain⟨u15,hu15,h⟩:=lJ h
       have j15:Run cJ 0 (bZ (c_1,s_2,k_3) r) (.code di::.code cX::[]) (sT 129 [(3,.hp 1 0 [] 2 0 0),(4,.hp 2 0 [] 5 0 0),(7,.hp 3 0 [] 4 0 0),(117,B u15)] [⟨0,2,[.agg [.isl false (c_1.Parties.map str),.isl false (c_1.Clauses.map aa)]]⟩,⟨0,5,[.agg [I s_2.Day,.isl false (s_2.Facts.map str),.isl false (s_2.Duties.map ah),.isl false (s_2.Balances.map I),B s_2.Over]]⟩,⟨0,4,[ah e4]⟩] 4):=by
        subst h
        exact rf [3,4,7,117] [1,2,3] (j14 :)
       replace h:=hu15
       clear hu15
       refine sp 96 h rfl (fun h=>?_) fun h=>?_
       ·refine dk 21 [117,116,115,114,113,112,111,110,109,108,107,106,105,104,103,102,101,100,99,98,97] [B true,.und,.und,.und,.und,.und,.und,.und,.und,B true,B true,.und,.und,.und,.und,.und,.und,.und,.und,.und,.und] ?_
        refine de 836 rfl rfl ?_
        subst h
        exact rf [3,4,7,117] [1,2,3] (j15 :)
       ·refine dy [3] [] (.hp 3 0 [] 4 0 3) rfl (al rfl rfl rfl) ?_
        refine dy [3] [] (I e4.Status) rfl (aM rfl rfl) ?_
        refine dk 2 [100,99] [B (e4.Status==3),B (e4.Status==3)] ?_
        obtain⟨u16,hu16,h⟩:=lJ h
        have j16:Run cJ 0 (bZ (c_1,s_2,k_3) r) (.code di::.code cX::[]) (sT 129 [(3,.hp 1 0 [] 2 0 0),(4,.hp 2 0 [] 5 0 0),(7,.hp 3 0 [] 4 0 0),(117,B u16)] [⟨0,2,[.agg [.isl false (c_1.Parties.map str),.isl false (c_1.Clauses.map aa)]]⟩,⟨0,5,[.agg [I s_2.Day,.isl false (s_2.Facts.map str),.isl false (s_2.Duties.map ah),.isl false (s_2.Balances.map I),B s_2.Over]]⟩,⟨0,4,[ah e4]⟩] 4):=by
         subst h
         exact rf [3,4,7,117] [1,2,3] (j15 :)
        replace h:=hu16
        clear hu16
        refine sp 100 h rfl (fun h=>?_) fun h=>?_
        ·refine dy [3] [] (.hp 3 0 [] 4 0 2) rfl (al rfl rfl rfl) ?_
         refine dy [3] [] (I e4.Due) rfl (aM rfl rfl) ?_
         refine dy [2] [] (.hp 2 0 [] 5 0 0) rfl (al rfl rfl rfl) ?_
         refine dy [2] [] (I s_2.Day) rfl (aM rfl rfl) ?_
         refine dk 4 [108,107,106,105] [B (decide (e4.Due≥s_2.Day)),B (decide (e4.Due≥s_2.Day)),B (decide (e4.Due≥s_2.Day)),B (decide (e4.Due≥s_2.Day))] ?_
         obtain⟨u17,hu17,h⟩:=lJ h
         have j17:Run cJ 0 (bZ (c_1,s_2,k_3) r) (.code di::.code cX::[]) (sT 129 [(3,.hp 1 0 [] 2 0 0),(4,.hp 2 0 [] 5 0 0),(7,.hp 3 0 [] 4 0 0),(117,B u17)] [⟨0,2,[.agg [.isl false (c_1.Parties.map str),.isl false (c_1.Clauses.map aa)]]⟩,⟨0,5,[.agg [I s_2.Day,.isl false (s_2.Facts.map str),.isl false (s_2.Duties.map ah),.isl false (s_2.Balances.map I),B s_2.Over]]⟩,⟨0,4,[ah e4]⟩] 4):=by
          subst h
          exact rf [3,4,7,117] [1,2,3] (j16 :)
         replace h:=hu17
         clear hu17
         refine sp 108 h rfl (fun h=>?_) fun h=>?_
         ·refine dk 9 [117,116,115,114,113,112,111,110,109] [B true,.und,.und,.und,.und,.und,.und,.und,.und] ?_
          refine de 836 rfl rfl ?_
          subst h
          exact rf [3,4,7,117] [1,2,3] (j17 :)
         ·refine dy [3] [] (.hp 3 0 [] 4 0 3) rfl (al rfl rfl rfl) ?_
          refine dy [3] [] (I e4.Status) rfl (aM rfl rfl) ?_
          refine dk 2 [112,111] [B (e4.Status==4),B (e4.Status==4)] ?_
          obtain⟨u18,hu18,h⟩:=lJ h
          have j18:Run cJ 0 (bZ (c_1,s_2,k_3) r) (.code di::.code cX::[]) (sT 129 [(3,.hp 1 0 [] 2 0 0),(4,.hp 2 0 [] 5 0 0),(7,.hp 3 0 [] 4 0 0),(117,B u18)] [⟨0,2,[.agg [.isl false (c_1.Parties.map str),.isl false (c_1.Clauses.map aa)]]⟩,⟨0,5,[.agg [I s_2.Day,.isl false (s_2.Facts.map str),.isl false (s_2.Duties.map ah),.isl false (s_2.Balances.map I),B s_2.Over]]⟩,⟨0,4,[ah e4]⟩] 4):=by
           subst h
           exact rf [3,4,7,117] [1,2,3] (j17 :)
          replace h:=hu18
          clear hu18
          refine sp 112 h rfl (fun h=>?_) fun h=>?_
          ·refine dy [2] [] (.hp 2 0 [] 5 0 4) rfl (al rfl rfl rfl) ?_
           refine dy [2] [] (B s_2.Over) rfl (aM rfl rfl) ?_
           refine dk 3 [117,116,115] [B (!s_2.Over),B (!s_2.Over),B (!s_2.Over)] ?_
           refine de 836 rfl rfl ?_
           subst h
           exact rf [3,4,7,117] [1,2,3] (j18 :)
          ·refine dk 5 [117,116,115,114,113] [B false,B false,.und,.und,.und] ?_
           refine de 836 rfl rfl ?_
           subst h
           exact rf [3,4,7,117] [1,2,3] (j18 :)
        ·refine dk 8 [108,107,106,105,104,103,102,101] [B false,B false,B false,.und,.und,.und,.und,.und] ?_
         refine dy [3] [] (.hp 3 0 [] 4 0 3) rfl (al rfl rfl rfl) ?_
         refine dy [3] [] (I e4.Status) rfl (aM rfl rfl) ?_
         refine dk 2 [112,111] [B (e4.Status==4),B (e4.Status==4)] ?_
         obtain⟨u19,hu19,h⟩:=lJ h
         have j19:Run cJ 0 (bZ (c_1,s_2,k_3) r) (.code di::.code cX::[]) (sT 129 [(3,.hp 1 0 [] 2 0 0),(4,.hp 2 0 [] 5 0 0),(7,.hp 3 0 [] 4 0 0),(117,B u19)] [⟨0,2,[.agg [.isl false (c_1.Parties.map str),.isl false (c_1.Clauses.map aa)]]⟩,⟨0,5,[.agg [I s_2.Day,.isl false (s_2.Facts.map str),.isl false (s_2.Duties.map ah),.isl false (s_2.Balances.map I),B s_2.Over]]⟩,⟨0,4,[ah e4]⟩] 4):=by
          subst h
          exact rf [3,4,7,117] [1,2,3] (j16 :)
         replace h:=hu19
         clear hu19
         refine sp 112 h rfl (fun h=>?_) fun h=>?_
         ·refine dy [2] [] (.hp 2 0 [] 5 0 4) rfl (al rfl rfl rfl) ?_
          refine dy [2] [] (B s_2.Over) rfl (aM rfl rfl) ?_
          refine dk 3 [117,116,115] [B (!s_2.Over),B (!s_2.Over),B (!s_2.Over)] ?_
          refine de 836 rfl rfl ?_
          subst h
          exact rf [3,4,7,117] [1,2,3] (j19 :)
         ·refine dk 5 [117,116,115,114,113] [B false,B false,.und,.und,.und] ?_
          refine de 836 rfl rfl ?_
          subst h
          exact rf [3,4,7,117] [1,2,3] (j19 :)
     ·refine dk 12 [96,95,94,93,92,91,90,89,88,87,86,85] [B false,B false,B false,.und,.und,.und,.und,.und,.und,.und,.und,.und] ?_
      refine dy [3] [] (.hp 3 0 [] 4 0 3) rfl (al rfl rfl rfl) ?_
      refine dy [3] [] (I e4.Status) rfl (aM rfl rfl) ?_
      refine dk 2 [100,99] [B (e4.Status==3),B (e4.Status==3)] ?_
      obtain⟨u20,hu20,h⟩:=lJ h
      have j20:Run cJ 0 (bZ (c_1,s_2,k_3) r) (.code di::.code cX::[]) (sT 129 [(3,.hp 1 0 [] 2 0 0),(4,.hp 2 0 [] 5 0 0),(7,.hp 3 0 [] 4 0 0),(117,B u20)] [⟨0,2,[.agg [.isl false (c_1.Parties.map str),.isl false (c_1.Clauses.map aa)]]⟩,⟨0,5,[.agg [I s_2.Day,.isl false (s_2.Facts.map str),.isl false (s_2.Duties.map ah),.isl false (s_2.Balances.map I),B s_2.Over]]⟩,⟨0,4,[ah e4]⟩] 4):=by
       subst h
       exact rf [3,4,7,117] [1,2,3] (j13 :)
      replace h:=hu20
      clear hu20
      refine sp 100 h rfl (fun h=>?_) fun h=>?_
      ·refine dy [3] [] (.hp 3 0 [] 4 0 2) rfl (al rfl rfl rfl) ?_
       refine dy [3] [] (I e4.Due) rfl (aM rfl rfl) ?_
       refine dy [2] [] (.hp 2 0 [] 5 0 0) rfl (al rfl rfl rfl) ?_
       refine dy [2] [] (I s_2.Day) rfl (aM rfl rfl) ?_
       refine dk 4 [108,107,106,105] [B (decide (e4.Due≥s_2.Day)),B (decide (e4.Due≥s_2.Day)),B (decide (e4.Due≥s_2.Day)),B (decide (e4.Due≥s_2.Day))] ?_
       obtain⟨u21,hu21,h⟩:=lJ h
       have j21:Run cJ 0 (bZ (c_1,s_2,k_3) r) (.code di::.code cX::[]) (sT 129 [(3,.hp 1 0 [] 2 0 0),(4,.hp 2 0 [] 5 0 0),(7,.hp 3 0 [] 4 0 0),(117,B u21)] [⟨0,2,[.agg [.isl false (c_1.Parties.map str),.isl false (c_1.Clauses.map aa)]]⟩,⟨0,5,[.agg [I s_2.Day,.isl false (s_2.Facts.map str),.isl false (s_2.Duties.map ah),.isl false (s_2.Balances.map I),B s_2.Over]]⟩,⟨0,4,[ah e4]⟩] 4):=by
        subst h
        exact rf [3,4,7,117] [1,2,3] (j20 :)
       replace h:=hu21
       clear hu21
       refine sp 108 h rfl (fun h=>?_) fun h=>?_
       ·refine dk 9 [117,116,115,114,113,112,111,110,109] [B true,.und,.und,.und,.und,.und,.und,.und,.und] ?_
        refine de 836 rfl rfl ?_
        subst h
        exact rf [3,4,7,117] [1,2,3] (j21 :)
       ·refine dy [3] [] (.hp 3 0 [] 4 0 3) rfl (al rfl rfl rfl) ?_
        refine dy [3] [] (I e4.Status) rfl (aM rfl rfl) ?_
        refine dk 2 [112,111] [B (e4.Status==4),B (e4.Status==4)] ?_
        obtain⟨u22,hu22,h⟩:=lJ h
        have j22:Run cJ 0 (bZ (c_1,s_2,k_3) r) (.code di::.code cX::[]) (sT 129 [(3,.hp 1 0 [] 2 0 0),(4,.hp 2 0 [] 5 0 0),(7,.hp 3 0 [] 4 0 0),(117,B u22)] [⟨0,2,[.agg [.isl false (c_1.Parties.map str),.isl false (c_1.Clauses.map aa)]]⟩,⟨0,5,[.agg [I s_2.Day,.isl false (s_2.Facts.map str),.isl false (s_2.Duties.map ah),.isl false (s_2.Balances.map I),B s_2.Over]]⟩,⟨0,4,[ah e4]⟩] 4):=by
         subst h
         exact rf [3,4,7,117] [1,2,3] (j21 :)
        replace h:=hu22
        clear hu22
        refine sp 112 h rfl (fun h=>?_) fun h=>?_
        ·refine dy [2] [] (.hp 2 0 [] 5 0 4) rfl (al rfl rfl rfl) ?_
         refine dy [2] [] (B s_2.Over) rfl (aM rfl rfl) ?_
         refine dk 3 [117,116,115] [B (!s_2.Over),B (!s_2.Over),B (!s_2.Over)] ?_
         refine de 836 rfl rfl ?_
         subst h
         exact rf [3,4,7,117] [1,2,3] (j22 :)
        ·refine dk 5 [117,116,115,114,113] [B false,B false,.und,.und,.und] ?_
         refine de 836 rfl rfl ?_
         subst h
         exact rf [3,4,7,117] [1,2,3] (j22 :)
      ·refine dk 8 [108,107,106,105,104,103,102,101] [B false,B false,B false,.und,.und,.und,.und,.und] ?_
       refine dy [3] [] (.hp 3 0 [] 4 0 3) rfl (al rfl rfl rfl) ?_
       refine dy [3] [] (I e4.Status) rfl (aM rfl rfl) ?_
       refine dk 2 [112,111] [B (e4.Status==4),B (e4.Status==4)] ?_
       obtain⟨u23,hu23,h⟩:=lJ h
       have j23:Run cJ 0 (bZ (c_1,s_2,k_3) r) (.code di::.code cX::[]) (sT 129 [(3,.hp 1 0 [] 2 0 0),(4,.hp 2 0 [] 5 0 0),(7,.hp 3 0 [] 4 0 0),(117,B u23)] [⟨0,2,[.agg [.isl false (c_1.Parties.map str),.isl false (c_1.Clauses.map aa)]]⟩,⟨0,5,[.agg [I s_2.Day,.isl false (s_2.Facts.map str),.isl false (s_2.Duties.map ah),.isl false (s_2.Balances.map I),B s_2.Over]]⟩,⟨0,4,[ah e4]⟩] 4):=by
        subst h
        exact rf [3,4,7,117] [1,2,3] (j20 :)
       replace h:=hu23
       clear hu23
       refine sp 112 h rfl (fun h=>?_) fun h=>?_
       ·refine dy [2] [] (.hp 2 0 [] 5 0 4) rfl (al rfl rfl rfl) ?_
        refine dy [2] [] (B s_2.Over) rfl (aM rfl rfl) ?_
        refine dk 3 [117,116,115] [B (!s_2.Over),B (!s_2.Over),B (!s_2.Over)] ?_
        refine de 836 rfl rfl ?_
        subst h
        exact rf [3,4,7,117] [1,2,3] (j23 :)
       ·refine dk 5 [117,116,115,114,113] [B false,B false,.und,.und,.und] ?_
        refine de 836 rfl rfl ?_
        subst h
        exact rf [3,4,7,117] [1,2,3] (j23 :)
   ·refine dk 12 [80,79,78,77,76,75,74,73,72,71,70,69] [B false,B false,.und,.und,.und,.und,.und,.und,.und,.und,.und,.und] ?_
    refine dy [3] [] (.hp 3 0 [] 4 0 3) rfl (al rfl rfl rfl) ?_
    refine dy [3] [] (I e4.Status) rfl (aM rfl rfl) ?_
    refine dk 2 [84,83] [B (e4.Status==1),B (e4.Status==1)] ?_
    obtain⟨u24,hu24,h⟩:=lJ h
    have j24:Run cJ 0 (bZ (c_1,s_2,k_3) r) (.code di::.code cX::[]) (sT 129 [(3,.hp 1 0 [] 2 0 0),(4,.hp 2 0 [] 5 0 0),(7,.hp 3 0 [] 4 0 0),(117,B u24)] [⟨0,2,[.agg [.isl false (c_1.Parties.map str),.isl false (c_1.Clauses.map aa)]]⟩,⟨0,5,[.agg [I s_2.Day,.isl false (s_2.Facts.map str),.isl false (s_2.Duties.map ah),.isl false (s_2.Balances.map I),B s_2.Over]]⟩,⟨0,4,[ah e4]⟩] 4):=by
     exact rf [3,4,7,117] [1,2,3] (j7 _ (Option.some.inj h).symm :)
    replace h:=hu24
    clear hu24
    refine sp 84 h rfl (fun h=>?_) fun h=>?_
    ·refine dy [3] [] (.hp 3 0 [] 4 0 2) rfl (al rfl rfl rfl) ?_
     refine dy [3] [] (I e4.Due) rfl (aM rfl rfl) ?_
     refine dy [2] [] (.hp 2 0 [] 5 0 0) rfl (al rfl rfl rfl) ?_
     refine dy [2] [] (I s_2.Day) rfl (aM rfl rfl) ?_
     refine dk 2 [90,89] [B (decide (e4.Due<s_2.Day)),B (decide (e4.Due<s_2.Day))] ?_
     obtain⟨u25,hu25,h⟩:=lJ h
     have j25:Run cJ 0 (bZ (c_1,s_2,k_3) r) (.code di::.code cX::[]) (sT 129 [(3,.hp 1 0 [] 2 0 0),(4,.hp 2 0 [] 5 0 0),(7,.hp 3 0 [] 4 0 0),(117,B u25)] [⟨0,2,[.agg [.isl false (c_1.Parties.map str),.isl false (c_1.Clauses.map aa)]]⟩,⟨0,5,[.agg [I s_2.Day,.isl false (s_2.Facts.map str),.isl false (s_2.Duties.map ah),.isl false (s_2.Balances.map I),B s_2.Over]]⟩,⟨0,4,[ah e4]⟩] 4):=by
      subst h
      exact rf [3,4,7,117] [1,2,3] (j24 :)
     replace h:=hu25
     clear hu25
     refine sp 90 h rfl (fun h=>?_) fun h=>?_
     ·refine dk 27 [117,116,115,114,113,112,111,110,109,108,107,106,105,104,103,102,101,100,99,98,97,96,95,94,93,92,91] [B true,.und,.und,.und,.und,.und,.und,.und,.und,B true,B true,.und,.und,.und,.und,.und,.und,.und,.und,.und,.und,B true,B true,B true,B true,.und,.und] ?_
      refine de 836 rfl rfl ?_
      subst h
      exact rf [3,4,7,117] [1,2,3] (j25 :)
     ·refine dy [2] [] (.hp 2 0 [] 5 0 4) rfl (al rfl rfl rfl) ?_
      refine dy [2] [] (B s_2.Over) rfl (aM rfl rfl) ?_
      refine dk 4 [96,95,94,93] [B s_2.Over,B s_2.Over,B s_2.Over,B s_2.Over] ?_
      obtain⟨u26,hu26,h⟩:=lJ h
      have j26:Run cJ 0 (bZ (c_1,s_2,k_3) r) (.code di::.code cX::[]) (sT 129 [(3,.hp 1 0 [] 2 0 0),(4,.hp 2 0 [] 5 0 0),(7,.hp 3 0 [] 4 0 0),(117,B u26)] [⟨0,2,[.agg [.isl false (c_1.Parties.map str),.isl false (c_1.Clauses.map aa)]]⟩,⟨0,5,[.agg [I s_2.Day,.isl false (s_2.Facts.map str),.isl false (s_2.Duties.map ah),.isl false (s_2.Balances.map I),B s_2.Over]]⟩,⟨0,4,[ah e4]⟩] 4):=by
       subst h
       exact rf [3,4,7,117] [1,2,3] (j25 :)
      replace h:=hu26
      clear hu26
      refine sp 96 h rfl (fun h=>?_) fun h=>?_
      ·refine dk 21 [117,116,115,114,113,112,111,110,109,108,107,106,105,104,103,102,101,100,99,98,97] [B true,.und,.und,.und,.und,.und,.und,.und,.und,B true,B true,.und,.und,.und,.und,.und,.und,.und,.und,.und,.und] ?_
       refine de 836 rfl rfl ?_
       subst h
       exact rf [3,4,7,117] [1,2,3] (j26 :)
      ·refine dy [3] [] (.hp 3 0 [] 4 0 3) rfl (al rfl rfl rfl) ?_
       refine dy [3] [] (I e4.Status) rfl (aM rfl rfl) ?_
       refine dk 2 [100,99] [B (e4.Status==3),B (e4.Status==3)] ?_
       obtain⟨u27,hu27,h⟩:=lJ h
       have j27:Run cJ 0 (bZ (c_1,s_2,k_3) r) (.code di::.code cX::[]) (sT 129 [(3,.hp 1 0 [] 2 0 0),(4,.hp 2 0 [] 5 0 0),(7,.hp 3 0 [] 4 0 0),(117,B u27)] [⟨0,2,[.agg [.isl false (c_1.Parties.map str),.isl false (c_1.Clauses.map aa)]]⟩,⟨0,5,[.agg [I s_2.Day,.isl false (s_2.Facts.map str),.isl false (s_2.Duties.map ah),.isl false (s_2.Balances.map I),B s_2.Over]]⟩,⟨0,4,[ah e4]⟩] 4):=by
        subst h
        exact rf [3,4,7,117] [1,2,3] (j26 :)
       replace h:=hu27
       clear hu27
       refine sp 100 h rfl (fun h=>?_) fun h=>?_
       ·refine dy [3] [] (.hp 3 0 [] 4 0 2) rfl (al rfl rfl rfl) ?_
        refine dy [3] [] (I e4.Due) rfl (aM rfl rfl) ?_
        refine dy [2] [] (.hp 2 0 [] 5 0 0) rfl (al rfl rfl rfl) ?_
        refine dy [2] [] (I s_2.Day) rfl (aM rfl rfl) ?_
        refine dk 4 [108,107,106,105] [B (decide (e4.Due≥s_2.Day)),B (decide (e4.Due≥s_2.Day)),B (decide (e4.Due≥s_2.Day)),B (decide (e4.Due≥s_2.Day))] ?_
        obtain⟨u28,hu28,h⟩:=lJ h
        have j28:Run cJ 0 (bZ (c_1,s_2,k_3) r) (.code di::.code cX::[]) (sT 129 [(3,.hp 1 0 [] 2 0 0),(4,.hp 2 0 [] 5 0 0),(7,.hp 3 0 [] 4 0 0),(117,B u28)] [⟨0,2,[.agg [.isl false (c_1.Parties.map str),.isl false (c_1.Clauses.map aa)]]⟩,⟨0,5,[.agg [I s_2.Day,.isl false (s_2.Facts.map str),.isl false (s_2.Duties.map ah),.isl false (s_2.Balances.map I),B s_2.Over]]⟩,⟨0,4,[ah e4]⟩] 4):=by
         subst h
         exact rf [3,4,7,117] [1,2,3] (j27 :)
        replace h:=hu28
        clear hu28
        refine sp 108 h rfl (fun h=>?_) fun h=>?_
        ·refine dk 9 [117,116,115,114,113,112,111,110,109] [B true,.und,.und,.und,.und,.und,.und,.und,.und] ?_
         refine de 836 rfl rfl ?_
         subst h
         exact rf [3,4,7,117] [1,2,3] (j28 :)
        ·refine dy [3] [] (.hp 3 0 [] 4 0 3) rfl (al rfl rfl rfl) ?_
         refine dy [3] [] (I e4.Status) rfl (aM rfl rfl) ?_
         refine dk 2 [112,111] [B (e4.Status==4),B (e4.Status==4)] ?_
         obtain⟨u29,hu29,h⟩:=lJ h
         have j29:Run cJ 0 (bZ (c_1,s_2,k_3) r) (.code di::.code cX::[]) (sT 129 [(3,.hp 1 0 [] 2 0 0),(4,.hp 2 0 [] 5 0 0),(7,.hp 3 0 [] 4 0 0),(117,B u29)] [⟨0,2,[.agg [.isl false (c_1.Parties.map str),.isl false (c_1.Clauses.map aa)]]⟩,⟨0,5,[.agg [I s_2.Day,.isl false (s_2.Facts.map str),.isl false (s_2.Duties.map ah),.isl false (s_2.Balances.map I),B s_2.Over]]⟩,⟨0,4,[ah e4]⟩] 4):=by
          subst h
          exact rf [3,4,7,117] [1,2,3] (j28 :)
         replace h:=hu29
         clear hu29
         refine sp 112 h rfl (fun h=>?_) fun h=>?_
         ·refine dy [2] [] (.hp 2 0 [] 5 0 4) rfl (al rfl rfl rfl) ?_
          refine dy [2] [] (B s_2.Over) rfl (aM rfl rfl) ?_
          refine dk 3 [117,116,115] [B (!s_2.Over),B (!s_2.Over),B (!s_2.Over)] ?_
          refine de 836 rfl rfl ?_
          subst h
          exact rf [3,4,7,117] [1,2,3] (j29 :)
         ·refine dk 5 [117,116,115,114,113] [B false,B false,.und,.und,.und] ?_
          refine de 836 rfl rfl ?_
          subst h
          exact rf [3,4,7,117] [1,2,3] (j29 :)
       ·refine dk 8 [108,107,106,105,104,103,102,101] [B false,B false,B false,.und,.und,.und,.und,.und] ?_
        refine dy [3] [] (.hp 3 0 [] 4 0 3) rfl (al rfl rfl rfl) ?_
        refine dy [3] [] (I e4.Status) rfl (aM rfl rfl) ?_
        refine dk 2 [112,111] [B (e4.Status==4),B (e4.Status==4)] ?_
        obtain⟨u30,hu30,h⟩:=lJ h
        have j30:Run cJ 0 (bZ (c_1,s_2,k_3) r) (.code di::.code cX::[]) (sT 129 [(3,.hp 1 0 [] 2 0 0),(4,.hp 2 0 [] 5 0 0),(7,.hp 3 0 [] 4 0 0),(117,B u30)] [⟨0,2,[.agg [.isl false (c_1.Parties.map str),.isl false (c_1.Clauses.map aa)]]⟩,⟨0,5,[.agg [I s_2.Day,.isl false (s_2.Facts.map str),.isl false (s_2.Duties.map ah),.isl false (s_2.Balances.map I),B s_2.Over]]⟩,⟨0,4,[ah e4]⟩] 4):=by
         subst h
         exact rf [3,4,7,117] [1,2,3] (j27 :)
        replace h:=hu30
        clear hu30
        refine sp 112 h rfl (fun h=>?_) fun h=>?_
        ·refine dy [2] [] (.hp 2 0 [] 5 0 4) rfl (al rfl rfl rfl) ?_
         refine dy [2] [] (B s_2.Over) rfl (aM rfl rfl) ?_
         refine dk 3 [117,116,115] [B (!s_2.Over),B (!s_2.Over),B (!s_2.Over)] ?_
         refine de 836 rfl rfl ?_
         subst h
         exact rf [3,4,7,117] [1,2,3] (j30 :)
        ·refine dk 5 [117,116,115,114,113] [B false,B false,.und,.und,.und] ?_
         refine de 836 rfl rfl ?_
         subst h
         exact rf [3,4,7,117] [1,2,3] (j30 :)
    ·refine dk 12 [96,95,94,93,92,91,90,89,88,87,86,85] [B false,B false,B false,.und,.und,.und,.und,.und,.und,.und,.und,.und] ?_
     refine dy [3] [] (.hp 3 0 [] 4 0 3) rfl (al rfl rfl rfl) ?_
     refine dy [3] [] (I e4.Status) rfl (aM rfl rfl) ?_
     refine dk 2 [100,99] [B (e4.Status==3),B (e4.Status==3)] ?_
     obtain⟨u31,hu31,h⟩:=lJ h
     have j31:Run cJ 0 (bZ (c_1,s_2,k_3) r) (.code di::.code cX::[]) (sT 129 [(3,.hp 1 0 [] 2 0 0),(4,.hp 2 0 [] 5 0 0),(7,.hp 3 0 [] 4 0 0),(117,B u31)] [⟨0,2,[.agg [.isl false (c_1.Parties.map str),.isl false (c_1.Clauses.map aa)]]⟩,⟨0,5,[.agg [I s_2.Day,.isl false (s_2.Facts.map str),.isl false (s_2.Duties.map ah),.isl false (s_2.Balances.map I),B s_2.Over]]⟩,⟨0,4,[ah e4]⟩] 4):=by
      subst h
      exact rf [3,4,7,117] [1,2,3] (j24 :)
     replace h:=hu31
     clear hu31
     refine sp 100 h rfl (fun h=>?_) fun h=>?_
     ·refine dy [3] [] (.hp 3 0 [] 4 0 2) rfl (al rfl rfl rfl) ?_
      refine dy [3] [] (I e4.Due) rfl (aM rfl rfl) ?_
      refine dy [2] [] (.hp 2 0 [] 5 0 0) rfl (al rfl rfl rfl) ?_
      refine dy [2] [] (I s_2.Day) rfl (aM rfl rfl) ?_
      refine dk 4 [108,107,106,105] [B (decide (e4.Due≥s_2.Day)),B (decide (e4.Due≥s_2.Day)),B (decide (e4.Due≥s_2.Day)),B (decide (e4.Due≥s_2.Day))] ?_
      obtain⟨u32,hu32,h⟩:=lJ h
      have j32:Run cJ 0 (bZ (c_1,s_2,k_3) r) (.code di::.code cX::[]) (sT 129 [(3,.hp 1 0 [] 2 0 0),(4,.hp 2 0 [] 5 0 0),(7,.hp 3 0 [] 4 0 0),(117,B u32)] [⟨0,2,[.agg [.isl false (c_1.Parties.map str),.isl false (c_1.Clauses.map aa)]]⟩,⟨0,5,[.agg [I s_2.Day,.isl false (s_2.Facts.map str),.isl false (s_2.Duties.map ah),.isl false (s_2.Balances.map I),B s_2.Over]]⟩,⟨0,4,[ah e4]⟩] 4):=by
       subst h
       exact rf [3,4,7,117] [1,2,3] (j31 :)
      replace h:=hu32
      clear hu32
      refine sp 108 h rfl (fun h=>?_) fun h=>?_
      ·refine dk 9 [117,116,115,114,113,112,111,110,109] [B true,.und,.und,.und,.und,.und,.und,.und,.und] ?_
       refine de 836 rfl rfl ?_
       subst h
       exact rf [3,4,7,117] [1,2,3] (j32 :)
      ·refine dy [3] [] (.hp 3 0 [] 4 0 3) rfl (al rfl rfl rfl) ?_
       refine dy [3] [] (I e4.Status) rfl (aM rfl rfl) ?_
       refine dk 2 [112,111] [B (e4.Status==4),B (e4.Status==4)] ?_
       obtain⟨u33,hu33,h⟩:=lJ h
       have j33:Run cJ 0 (bZ (c_1,s_2,k_3) r) (.code di::.code cX::[]) (sT 129 [(3,.hp 1 0 [] 2 0 0),(4,.hp 2 0 [] 5 0 0),(7,.hp 3 0 [] 4 0 0),(117,B u33)] [⟨0,2,[.agg [.isl false (c_1.Parties.map str),.isl false (c_1.Clauses.map aa)]]⟩,⟨0,5,[.agg [I s_2.Day,.isl false (s_2.Facts.map str),.isl false (s_2.Duties.map ah),.isl false (s_2.Balances.map I),B s_2.Over]]⟩,⟨0,4,[ah e4]⟩] 4):=by
        subst h
        exact rf [3,4,7,117] [1,2,3] (j32 :)
       replace h:=hu33
       clear hu33
       refine sp 112 h rfl (fun h=>?_) fun h=>?_
       ·refine dy [2] [] (.hp 2 0 [] 5 0 4) rfl (al rfl rfl rfl) ?_
        refine dy [2] [] (B s_2.Over) rfl (aM rfl rfl) ?_
        refine dk 3 [117,116,115] [B (!s_2.Over),B (!s_2.Over),B (!s_2.Over)] ?_
        refine de 836 rfl rfl ?_
        subst h
        exact rf [3,4,7,117] [1,2,3] (j33 :)
       ·refine dk 5 [117,116,115,114,113] [B false,B false,.und,.und,.und] ?_
        refine de 836 rfl rfl ?_
        subst h
        exact rf [3,4,7,117] [1,2,3] (j33 :)
     ·refine dk 8 [108,107,106,105,104,103,102,101] [B false,B false,B false,.und,.und,.und,.und,.und] ?_
      refine dy [3] [] (.hp 3 0 [] 4 0 3) rfl (al rfl rfl rfl) ?_
      refine dy [3] [] (I e4.Status) rfl (aM rfl rfl) ?_
      refine dk 2 [112,111] [B (e4.Status==4),B (e4.Status==4)] ?_
      obtain⟨u34,hu34,h⟩:=lJ h
      have j34:Run cJ 0 (bZ (c_1,s_2,k_3) r) (.code di::.code cX::[]) (sT 129 [(3,.hp 1 0 [] 2 0 0),(4,.hp 2 0 [] 5 0 0),(7,.hp 3 0 [] 4 0 0),(117,B u34)] [⟨0,2,[.agg [.isl false (c_1.Parties.map str),.isl false (c_1.Clauses.map aa)]]⟩,⟨0,5,[.agg [I s_2.Day,.isl false (s_2.Facts.map str),.isl false (s_2.Duties.map ah),.isl false (s_2.Balances.map I),B s_2.Over]]⟩,⟨0,4,[ah e4]⟩] 4):=by
       subst h
       exact rf [3,4,7,117] [1,2,3] (j31 :)
      replace h:=hu34
      clear hu34
      refine sp 112 h rfl (fun h=>?_) fun h=>?_
      ·refine dy [2] [] (.hp 2 0 [] 5 0 4) rfl (al rfl rfl rfl) ?_
       refine dy [2] [] (B s_2.Over) rfl (aM rfl rfl) ?_
       refine dk 3 [117,116,115] [B (!s_2.Over),B (!s_2.Over),B (!s_2.Over)] ?_
       refine de 836 rfl rfl ?_
       subst h
       exact rf [3,4,7,117] [1,2,3] (j34 :)
      ·refine dk 5 [117,116,115,114,113] [B false,B false,.und,.und,.und] ?_
       refine de 836 rfl rfl ?_
       subst h
       exact rf [3,4,7,117] [1,2,3] (j34 :)
 have r6:∀r',y6=.inl r'→∀st,bZ (c_1,s_2,k_3) r' st→(bZ (c_1,s_2,k_3) r) st:=fun r' e st hq=>by rw[hy61 r' e] at hq;exact hq
 replace h:=hy6
 refine sp 21 h rfl (fun h=>?_) fun h=>?_
 ·refine dk 44 [65,64,63,62,61,60,59,58,57,56,55,54,53,52,51,50,49,48,47,46,45,44,43,42,41,40,39,38,37,36,35,34,33,32,31,30,29,28,27,26,25,24,23,22] [B true,.und,.und,.und,.und,B true,B true,.und,.und,.und,.und,B true,B true,.und,.und,.und,.und,.und,.und,.und,.und,.und,.und,.und,.und,.und,B true,B true,.und,.und,.und,.und,.und,.und,B true,B true,.und,.und,.und,.und,.und,.und,.und,.und] ?_
  refine de 1009 rfl rfl ?_
  exact rf [2,3,4,7,65] [1,17,129] (j6 _ (Option.some.inj h).symm :)
 ·refine dy [1] [] (.hp 1 0 [] 2 0 1) rfl (al rfl rfl rfl) ?_
  refine dy [1] [] (.isl false (c_1.Clauses.map aa)) rfl (aM rfl rfl) ?_
  refine dy [129] [] (.hp 129 0 [] 4 0 0) rfl (al rfl rfl rfl) ?_
  refine dy [129] [] (I e4.Clause) rfl (aM rfl rfl) ?_
  obtain⟨e35,he35,h⟩:=bS h
  refine dy [] [] (.iptr (.agg [str e35.Id,I e35.Kind,I e35.Party,str e35.Action,I e35.Other,I e35.Amount,I e35.When.Op,str e35.When.Name,I e35.When.Day,.isl false (e35.When.Parts.map ac),I e35.Within,str e35.Repair]) 0) rfl (ap rfl rfl rfl (aQ rfl rfl rfl rfl he35)) ?_
  refine dy [] [] (.iptr (.agg [str e35.Id,I e35.Kind,I e35.Party,str e35.Action,I e35.Other,I e35.Amount,I e35.When.Op,str e35.When.Name,I e35.When.Day,.isl false (e35.When.Parts.map ac),I e35.Within,str e35.Repair]) 1) rfl (al rfl rfl rfl) ?_
  refine dy [] [] (I e35.Kind) rfl (aM rfl rfl) ?_
  refine dk 3 [31,30,29] [B (e35.Kind != 1),B (e35.Kind != 1),B (e35.Kind != 1)] ?_
  obtain⟨y36,hy36,hy361,hy362⟩:=bL h
  have j36:∀u36,y36=.inr u36→Run cJ 0 (bZ (c_1,s_2,k_3) r) (.code qI::.code mr::[]) (sT 129 [(2,I k_3),(3,.hp 1 0 [] 2 0 0),(4,.hp 2 0 [] 5 0 0),(7,.hp 3 0 [] 4 0 0),(65,B u36)] [⟨0,2,[.agg [.isl false (c_1.Parties.map str),.isl false (c_1.Clauses.map aa)]]⟩,⟨0,5,[.agg [I s_2.Day,.isl false (s_2.Facts.map str),.isl false (s_2.Duties.map ah),.isl false (s_2.Balances.map I),B s_2.Over]]⟩,⟨0,4,[ah e4]⟩] 4):=by
   intro u36 hu
   replace h:=hy362 u36 hu
   exact rf [2,3,4,7,65] [1,2,3] (j6 _ (Option.some.inj h).symm :)
  have r36:∀r',y36=.inl r'→∀st,bZ (c_1,s_2,k_3) r' st→(bZ (c_1,s_2,k_3) r) st:=fun r' e st hq=>r6 r' (hy361 r' e) st hq
  replace h:=hy36
  refine sp 31 h rfl (fun h=>?_) fun h=>?_
  ·refine dk 34 [65,64,63,62,61,60,59,58,57,56,55,54,53,52,51,50,49,48,47,46,45,44,43,42,41,40,39,38,37,36,35,34,33,32] [B true,.und,.und,.und,.und,B true,B true,.und,.und,.und,.und,B true,B true,.und,.und,.und,.und,.und,.und,.und,.und,.und,.und,.und,.und,.und,B true,B true,.und,.und,.und,.und,.und,.und] ?_
   refine de 1009 rfl rfl ?_
   exact rf [2,3,4,7,65] [1,17,129] (j36 _ (Option.some.inj h).symm :)
  ·refine dy [129] [] (.hp 129 0 [] 4 0 1) rfl (al rfl rfl rfl) ?_
   refine dy [129] [] (I e4.Since) rfl (aM rfl rfl) ?_
   refine dy [17] [] (.hp 17 0 [] 5 0 0) rfl (al rfl rfl rfl) ?_
   refine dy [17] [] (I s_2.Day) rfl (aM rfl rfl) ?_
   obtain⟨r37,hr37,h⟩:=bS h
   refine dy [] [] (B r37) rfl (cP (cW hr37)) ?_ (dj rfl rfl rfl rfl (b9 (cQ rfl) (b9 (cQ rfl) (b9 (cQ rfl) dD))) (cW hr37) (.inr rfl) rfl)
   refine dk 3 [39,38,37] [B (!r37),B (!r37),B (!r37)] ?_
   obtain⟨y38,hy38,hy381,hy382⟩:=bL h
   have j38:∀u38,y38=.inr u38→Run cJ 0 (bZ (c_1,s_2,k_3) r) (.code qI::.code mr::[]) (sT 129 [(2,I k_3),(3,.hp 1 0 [] 2 0 0),(4,.hp 2 0 [] 5 0 0),(7,.hp 3 0 [] 4 0 0),(65,B u38)] [⟨0,2,[.agg [.isl false (c_1.Parties.map str),.isl false (c_1.Clauses.map aa)]]⟩,⟨0,5,[.agg [I s_2.Day,.isl false (s_2.Facts.map str),.isl false (s_2.Duties.map ah),.isl false (s_2.Balances.map I),B s_2.Over]]⟩,⟨0,4,[ah e4]⟩] 4):=by
    intro u38 hu
    replace h:=hy382 u38 hu
    exact rf [2,3,4,7,65] [1,2,3] (j36 _ (Option.some.inj h).symm :)
   have r38:∀r',y38=.inl r'→∀st,bZ (c_1,s_2,k_3) r' st→(bZ (c_1,s_2,k_3) r) st:=fun r' e st hq=>r36 r' (hy381 r' e) st hq
   replace h:=hy38
   refine sp 39 h rfl (fun h=>?_) fun h=>?_
   ·refine dk 26 [65,64,63,62,61,60,59,58,57,56,55,54,53,52,51,50,49,48,47,46,45,44,43,42,41,40] [B true,.und,.und,.und,.und,B true,B true,.und,.und,.und,.und,B true,B true,.und,.und,.und,.und,.und,.und,.und,.und,.und,.und,.und,.und,.und] ?_
    refine de 1009 rfl rfl ?_
    exact rf [2,3,4,7,65] [1,17,129] (j38 _ (Option.some.inj h).symm :)
   ·refine dy [129] [] (.hp 129 0 [] 4 0 2) rfl (al rfl rfl rfl) ?_
    refine dy [129] [] (I e4.Due) rfl (aM rfl rfl) ?_
    refine dy [129] [] (.hp 129 0 [] 4 0 1) rfl (al rfl rfl rfl) ?_
    refine dy [129] [] (I e4.Since) rfl (aM rfl rfl) ?_
    refine dy [1] [] (.hp 1 0 [] 2 0 1) rfl (al rfl rfl rfl) ?_
    refine dy [1] [] (.isl false (c_1.Clauses.map aa)) rfl (aM rfl rfl) ?_
    refine dy [129] [] (.hp 129 0 [] 4 0 0) rfl (al rfl rfl rfl) ?_
    refine dy [129] [] (I e4.Clause) rfl (aM rfl rfl) ?_
    obtain⟨e39,he39,h⟩:=bS h
    refine dy [] [] (.iptr (.agg [str e39.Id,I e39.Kind,I e39.Party,str e39.Action,I e39.Other,I e39.Amount,I e39.When.Op,str e39.When.Name,I e39.When.Day,.isl false (e39.When.Parts.map ac),I e39.Within,str e39.Repair]) 0) rfl (ap rfl rfl rfl (aQ rfl rfl rfl rfl he39)) ?_
    refine dy [] [] (.iptr (.agg [str e39.Id,I e39.Kind,I e39.Party,str e39.Action,I e39.Other,I e39.Amount,I e39.When.Op,str e39.When.Name,I e39.When.Day,.isl false (e39.When.Parts.map ac),I e39.Within,str e39.Repair]) 10) rfl (al rfl rfl rfl) ?_
    refine dy [] [] (I e39.Within) rfl (aM rfl rfl) ?_
    refine dk 4 [54,53,52,51] [B (e4.Due != (ar (e4.Since+e39.Within))),B (e4.Due != (ar (e4.Since+e39.Within))),B (e4.Due != (ar (e4.Since+e39.Within))),I (ar (e4.Since+e39.Within))] ?_
    obtain⟨y40,hy40,hy401,hy402⟩:=bL h
    have j40:∀u40,y40=.inr u40→Run cJ 0 (bZ (c_1,s_2,k_3) r) (.code qI::.code mr::[]) (sT 129 [(2,I k_3),(3,.hp 1 0 [] 2 0 0),(4,.hp 2 0 [] 5 0 0),(7,.hp 3 0 [] 4 0 0),(65,B u40)] [⟨0,2,[.agg [.isl false (c_1.Parties.map str),.isl false (c_1.Clauses.map aa)]]⟩,⟨0,5,[.agg [I s_2.Day,.isl false (s_2.Facts.map str),.isl false (s_2.Duties.map ah),.isl false (s_2.Balances.map I),B s_2.Over]]⟩,⟨0,4,[ah e4]⟩] 4):=by
     intro u40 hu
     replace h:=hy402 u40 hu
     exact rf [2,3,4,7,65] [1,2,3] (j38 _ (Option.some.inj h).symm :)
    have r40:∀r',y40=.inl r'→∀st,bZ (c_1,s_2,k_3) r' st→(bZ (c_1,s_2,k_3) r) st:=fun r' e st hq=>r38 r' (hy401 r' e) st hq
    replace h:=hy40
    refine sp 54 h rfl (fun h=>?_) fun h=>?_
    ·refine dk 11 [65,64,63,62,61,60,59,58,57,56,55] [B true,.und,.und,.und,.und,B true,B true,.und,.und,.und,.und] ?_
     refine de 1009 rfl rfl ?_
     exact rf [2,3,4,7,65] [1,17,129] (j40 _ (Option.some.inj h).symm :)
    ·refine dy [129] [] (.hp 129 0 [] 4 0 2) rfl (al rfl rfl rfl) ?_
     refine dy [129] [] (I e4.Due) rfl (aM rfl rfl) ?_
     obtain⟨r41,hr41,h⟩:=bS h
     refine dy [] [] (B r41) rfl (cP (zV hr41)) ?_ (dj rfl rfl rfl rfl (b9 (cQ rfl) dD) (zV hr41) (.inr rfl) rfl)
     refine dk 3 [60,59,58] [B (!r41),B (!r41),B (!r41)] ?_
     obtain⟨y42,hy42,hy421,hy422⟩:=bL h
     have j42:∀u42,y42=.inr u42→Run cJ 0 (bZ (c_1,s_2,k_3) r) (.code qI::.code mr::[]) (sT 129 [(2,I k_3),(3,.hp 1 0 [] 2 0 0),(4,.hp 2 0 [] 5 0 0),(7,.hp 3 0 [] 4 0 0),(65,B u42)] [⟨0,2,[.agg [.isl false (c_1.Parties.map str),.isl false (c_1.Clauses.map aa)]]⟩,⟨0,5,[.agg [I s_2.Day,.isl false (s_2.Facts.map str),.isl false (s_2.Duties.map ah),.isl false (s_2.Balances.map I),B s_2.Over]]⟩,⟨0,4,[ah e4]⟩] 4):=by
      intro u42 hu
      replace h:=hy422 u42 hu
      exact rf [2,3,4,7,65] [1,2,3] (j40 _ (Option.some.inj h).symm :)
     have r42:∀r',y42=.inl r'→∀st,bZ (c_1,s_2,k_3) r' st→(bZ (c_1,s_2,k_3) r) st:=fun r' e st hq=>r40 r' (hy421 r' e) st hq
     replace h:=hy42
     refine sp 60 h rfl (fun h=>?_) fun h=>?_
     ·refine dk 5 [65,64,63,62,61] [B true,.und,.und,.und,.und] ?_
      refine de 1009 rfl rfl ?_
      exact rf [2,3,4,7,65] [1,17,129] (j42 _ (Option.some.inj h).symm :)
     ·refine dy [129] [] (.hp 129 0 [] 4 0 3) rfl (al rfl rfl rfl) ?_
      refine dy [129] [] (I e4.Status) rfl (aM rfl rfl) ?_
      obtain⟨r43,hr43,h⟩:=bS h
      refine dy [] [] (B r43) rfl (cP (cW hr43)) ?_ (dj rfl rfl rfl rfl (b9 (cQ rfl) (b9 (cQ rfl) (b9 (cQ rfl) dD))) (cW hr43) (.inr rfl) rfl)
      refine dk 2 [65,64] [B (!r43),B (!r43)] ?_
      refine de 1009 rfl rfl ?_
      exact rf [2,3,4,7,65] [1,17,129] (j42 _ (Option.some.inj h).symm :)
theorem L3 {G:Go.Ln.Ground}:aI Tryz.prog G 118 wS:=gT 3 0 (aD eU (aD Pe (aD M1 (aD tK bg)))) (Checked.mixed Tryz.checked) Tryz.func118 (fun a r h=>Rc a.1 a.2.1 a.2.2 r h)
def AD:Int→List V:=oA I
def CO (r:Bool):V×List V:=(B r,[])
noncomputable def yB:Ent:=aR [false] AD CO fun x=>yg x
theorem UX {x_1:Int}{r}(h:yg x_1=some r):yB.F (AD x_1)=some (CO r):=aC (aB bO) h
noncomputable def VP:Code:=az Tryz.f119
noncomputable def Oa:Env:=bF Tryz.prog [(73,ef)]
def VW (x:Int)(r:Bool):St→Prop:=QF Oa Tryz.f119 [false] (AD x) (CO r)
theorem Rm (x_1:Int)(r:Bool)(h:yg x_1=some r):be Oa Tryz.f119 [false] 0 (AD x_1) (CO r):=by
 show Run _ _ (VW x_1 r) [.code VP] _
 refine rI 5 [(0,I x_1)] [] 1 ?_
 unfold yg at h
 refine cq 7 [3] [I x_1] 33 ?_
 obtain⟨r2,hr2,h⟩:=bS h
 refine oq 49 (B r2) rfl (cP (cW hr2)) ?_
 refine cq 2 [2] [B r2] 65 ?_
 obtain rfl:=Option.some.inj h
 exact aj rfl (qp [B r2])
theorem LT {G:Go.Ln.Ground}:aI Tryz.prog G 119 yB:=gT 1 0 (aD eU bg) (Checked.mixed Tryz.checked) Tryz.func119 (fun a r h=>Rm a r h)
def An:(List Int)→List V:=oA (ew I)
def BN (r:Int):V×List V:=(I r,[])
noncomputable def xt:Ent:=aR [false] An BN fun x=>rC x
theorem Uc {list_1:List Int}{r}(h:rC list_1=some r):xt.F (An list_1)=some (BN r):=aC (aB (bz bO)) h
noncomputable def N0:Code:=az Tryz.f120
noncomputable def Hv:Env:=bF Tryz.prog []
def LR (x:(List Int))(r:Int):St→Prop:=QF Hv Tryz.f120 [false] (An x) (BN r)
theorem Ir (list_1:List Int):cd Hv 0 (LR list_1) (cL (cL (cR (cL (cR (cR N0)))))) 0 (iI list_1) (fun u=>(sT 18 [(3,I u)] [] 1)) fun x2=>(sT 18 [(0,.isl false (list_1.map I)),(3,I x2.1),(4,I x2.2)] [] 1):=dT (wm list_1) fun {Q K} hK self ih x2 y h hr hn=>by
 unfold jo at h
 refine cq 5 [5,6] [I x2.2,.isl false (list_1.map I)] 33 ?_
 refine oq 49 (I (len list_1)) rfl (aX rfl rfl rfl (bc rfl)) ?_
 refine cq 2 [8] [B (decide (x2.2<(len list_1)))] 65 ?_
 refine sq h (fun h=>?_) fun h=>?_
 ·refine aq 1 ?_
  refine cq 6 [11,12,13] [I x2.1,.isl false (list_1.map I),I x2.2] 113 ?_
  obtain⟨e3,he3,h⟩:=bS h
  refine oq 129 (.iptr (I e3) 0) rfl (ap rfl rfl rfl (aQ rfl rfl rfl rfl he3)) ?_
  refine cq 10 [3,4] [I (ar (x2.1+e3)),I (ar (x2.2+1))] 225 ?_
  refine cG ?_
  exact rf [0,3,4] [] (ih _ _ h hr hn :)
 ·refine aq 1 ?_
  exact rf [3] [] (hn _ (Option.some.inj h).symm :) (hk:=hK)
theorem Q3 (list_1:List Int)(r:Int)(h:rC list_1=some r):be Hv Tryz.f120 [false] 0 (An list_1) (BN r):=by
 show Run _ _ (LR list_1 r) [.code N0] _
 refine rI 18 [(0,.isl false (list_1.map I))] [] 1 ?_
 unfold rC at h
 refine cq 14 [3,4] [I (0),I (0)] 49 ?_
 obtain⟨y4,hy4,hy41,hy42⟩:=bJ h
 refine bG rfl ?_
 refine rf [0,3,4] [] (Ir list_1 rfl (0,0) _ hy4 (fun r' e st hq=>by rw[hy41 r' e] at hq;exact hq) fun u4 hu=>?_)
 replace h:=hy42 u4 hu
 refine cq 5 [2] [I u4] 33 ?_
 obtain rfl:=Option.some.inj h
 exact aj rfl (qp [I u4])
theorem Nx {G:Go.Ln.Ground}:aI Tryz.prog G 120 xt:=gT 1 0 bg (Checked.mixed Tryz.checked) Tryz.func120 (fun a r h=>Q3 a r h)
def BZ:(Contract×State)→List V:=cA aG (oA bX)
def BC (r:Bool):V×List V:=(B r,[])
noncomputable def xZ:Ent:=aR [false,false] BZ BC fun x=>sj x.1 x.2
theorem V5 {c_1:Contract}{s_2:State}{r}(h:sj c_1 s_2=some r):xZ.F (BZ (c_1,s_2))=some (BC r):=aC (aY aV (aB cY)) h
noncomputable def ix:Code:=az Tryz.f61
noncomputable def lH:Env:=bF Tryz.prog [(72,xh),(116,rl),(117,rS),(118,wS),(119,yB),(120,xt),(114,oK),(115,xR)]
def iw (x:Contract×State)(r:Bool):St→Prop:=QF lH Tryz.f61 [false,false] (BZ x) (BC r)
theorem Jd (c_1:Contract)(s_2:State)(r5:(List ae)):cd lH 0 (iw (c_1,s_2)) (cL (cL (cR (cL (cR (cR (cR ix))))))) 0 (qN c_1 s_2 r5) (fun u=>(sT 86 [(2,.hp 1 0 [] 2 0 0),(3,.hp 2 0 [] 5 0 0)] [⟨0,2,[.agg [.isl false (c_1.Parties.map str),.isl false (c_1.Clauses.map aa)]]⟩,⟨0,5,[.agg [I s_2.Day,.isl false (s_2.Facts.map str),.isl false (s_2.Duties.map ah),.isl false (s_2.Balances.map I),B s_2.Over]]⟩] 3)) fun x6=>(sT 86 [(2,.hp 1 0 [] 2 0 0),(3,.hp 2 0 [] 5 0 0),(5,.hs 3 0 [] 1 0 (r5.map str).length),(6,I x6)] [⟨0,2,[.agg [.isl false (c_1.Parties.map str),.isl false (c_1.Clauses.map aa)]]⟩,⟨0,5,[.agg [I s_2.Day,.isl false (s_2.Facts.map str),.isl false (s_2.Duties.map ah),.isl false (s_2.Balances.map I),B s_2.Over]]⟩,⟨0,1,r5.map str⟩] 4):=dT (vH c_1 s_2 r5) fun {Q K} hK self ih x6 y h hr hn=>by
 unfold kS at h
 refine cq 6 [41,43] [I x6,.isl false (s_2.Facts.map str)] 52 ?_
 refine oq 68 (I (len s_2.Facts)) rfl (aX rfl rfl rfl (bc rfl)) ?_
 refine cq 2 [45] [B (decide (x6<(len s_2.Facts)))] 84 ?_
 refine sq h (fun h=>?_) fun h=>?_
 ·refine aq 1 ?_
  refine cq 8 [48,50,51] [.hs 3 0 [] 1 0 (r5.map str).length,.isl false (s_2.Facts.map str),I x6] 148 ?_
  obtain⟨e7,he7,h⟩:=bS h
  refine oq 164 (.iptr (str e7) 0) rfl (ap rfl rfl rfl (aQ rfl rfl rfl rfl he7)) ?_
  refine cq 1 [53] [str e7] 180 ?_
  obtain⟨r8,hr8,h⟩:=bS h
  refine oq 196 (B r8) rfl (co rfl rfl (cI rfl rfl rfl (b9 (Xe rfl rfl (d6 (f:=str) (g:=str) (xs:=r5) rfl rfl (bU ep))) (b9 (cQ rfl) dD)) (GA hr8) (.inl rfl) d9 rfl rfl rfl)) ?_
  refine cq 2 [55] [B (!r8)] 212 ?_
  refine sq h (fun h=>?_) fun h=>?_
  ·refine cq 4 [4] [B false] 228 ?_
   exact aj rfl (hr _ (Option.some.inj h).symm _ (qp [B false]))
  ·refine aq 1 ?_
   refine cq 6 [6] [I (ar (x6+1))] 260 ?_
   refine cG ?_
   exact rf [2,3,5,6] [1,2,3] (ih _ _ h hr hn :)
 ·refine aq 1 ?_
  exact rf [2,3] [1,2] (hn _ (Option.some.inj h).symm :) (hk:=hK)
theorem IK (c_1:Contract)(s_2:State):cd lH 0 (iw (c_1,s_2)) (cL (cL (cR (cL (cR (cR (cR (cR ix)))))))) 2 (li c_1 s_2) (fun u=>(sT 86 [(3,.hp 1 0 [] 5 0 0)] [⟨0,5,[.agg [I s_2.Day,.isl false (s_2.Facts.map str),.isl false (s_2.Duties.map ah),.isl false (s_2.Balances.map I),B s_2.Over]]⟩] 2)) fun x10=>(sT 86 [(2,.hp 1 0 [] 2 0 0),(3,.hp 2 0 [] 5 0 0),(7,I x10)] [⟨0,2,[.agg [.isl false (c_1.Parties.map str),.isl false (c_1.Clauses.map aa)]]⟩,⟨0,5,[.agg [I s_2.Day,.isl false (s_2.Facts.map str),.isl false (s_2.Duties.map ah),.isl false (s_2.Balances.map I),B s_2.Over]]⟩] 3):=dT (vu c_1 s_2) fun {Q K} hK self ih x10 y h hr hn=>by
 unfold jp at h
 refine cq 6 [56,58] [I x10,.isl false (s_2.Duties.map ah)] 51 ?_
 refine oq 67 (I (len s_2.Duties)) rfl (aX rfl rfl rfl (bc rfl)) ?_
 refine cq 2 [60] [B (decide (x10<(len s_2.Duties)))] 83 ?_
 refine sq h (fun h=>?_) fun h=>?_
 ·refine aq 1 ?_
  refine cq 7 [63,64,65] [.agg [.isl false (c_1.Parties.map str),.isl false (c_1.Clauses.map aa)],.agg [I s_2.Day,.isl false (s_2.Facts.map str),.isl false (s_2.Duties.map ah),.isl false (s_2.Balances.map I),B s_2.Over],I x10] 131 ?_
  obtain⟨r11,hr11,h⟩:=bS h
  refine oq 147 (B r11) rfl (cP (VL hr11)) ?_
  refine cq 2 [67] [B (!r11)] 163 ?_
  refine sq h (fun h=>?_) fun h=>?_
  ·refine cq 4 [4] [B false] 179 ?_
   exact aj rfl (hr _ (Option.some.inj h).symm _ (qp [B false]))
  ·refine aq 1 ?_
   refine cq 6 [7] [I (ar (x10+1))] 211 ?_
   refine cG ?_
   exact rf [2,3,7] [1,2] (ih _ _ h hr hn :)
 ·refine aq 1 ?_
  exact rf [3] [2] (hn _ (Option.some.inj h).symm :) (hk:=hK)
theorem Iq (c_1:Contract)(s_2:State):cd lH 0 (iw (c_1,s_2)) (cL (cL (cR (cL (cR (cR (cR (cR (cR ix))))))))) 4 (qn c_1 s_2) (fun u=>(sT 86 [(3,.hp 1 0 [] 5 0 0)] [⟨0,5,[.agg [I s_2.Day,.isl false (s_2.Facts.map str),.isl false (s_2.Duties.map ah),.isl false (s_2.Balances.map I),B s_2.Over]]⟩] 2)) fun x13=>(sT 86 [(3,.hp 1 0 [] 5 0 0),(8,I x13)] [⟨0,5,[.agg [I s_2.Day,.isl false (s_2.Facts.map str),.isl false (s_2.Duties.map ah),.isl false (s_2.Balances.map I),B s_2.Over]]⟩] 2):=dT (vB c_1 s_2) fun {Q K} hK self ih x13 y h hr hn=>by
 unfold kN at h
 refine cq 6 [68,70] [I x13,.isl false (s_2.Balances.map I)] 50 ?_
 refine oq 66 (I (len s_2.Balances)) rfl (aX rfl rfl rfl (bc rfl)) ?_
 refine cq 2 [72] [B (decide (x13<(len s_2.Balances)))] 82 ?_
 refine sq h (fun h=>?_) fun h=>?_
 ·refine aq 1 ?_
  refine cq 7 [76,77] [.isl false (s_2.Balances.map I),I x13] 130 ?_
  obtain⟨e14,he14,h⟩:=bS h
  refine oq 146 (.iptr (I e14) 0) rfl (ap rfl rfl rfl (aQ rfl rfl rfl rfl he14)) ?_
  refine cq 1 [79] [I e14] 162 ?_
  obtain⟨r15,hr15,h⟩:=bS h
  refine oq 178 (B r15) rfl (cP (UX hr15)) ?_
  refine cq 2 [81] [B (!r15)] 194 ?_
  refine sq h (fun h=>?_) fun h=>?_
  ·refine cq 4 [4] [B false] 210 ?_
   exact aj rfl (hr _ (Option.some.inj h).symm _ (qp [B false]))
  ·refine aq 1 ?_
   refine cq 6 [8] [I (ar (x13+1))] 242 ?_
   refine cG ?_
   exact rf [3,8] [1] (ih _ _ h hr hn :)
 ·refine aq 1 ?_
  exact rf [3] [1] (hn _ (Option.some.inj h).symm :) (hk:=hK)
theorem Qz (c_1:Contract)(s_2:State)(r:Bool)(h:sj c_1 s_2=some r):be lH Tryz.f61 [false,false] 0 (BZ (c_1,s_2)) (BC r):=by
 show Run _ _ (iw (c_1,s_2) r) [.code ix] _
 refine rI 86 [(0,.agg [.isl false (c_1.Parties.map str),.isl false (c_1.Clauses.map aa)]),(1,.agg [I s_2.Day,.isl false (s_2.Facts.map str),.isl false (s_2.Duties.map ah),.isl false (s_2.Balances.map I),B s_2.Over])] [] 1 ?_
 unfold sj at h
 refine ck 10 [2,3,9] [] [1,17] [] [.hp 1 0 [] 2 0 0,.hp 17 0 [] 5 0 0,.agg [.isl false (c_1.Parties.map str),.isl false (c_1.Clauses.map aa)]] [some ⟨0,2,[.agg [.isl false (c_1.Parties.map str),.isl false (c_1.Clauses.map aa)]]⟩,some ⟨0,5,[.agg [I s_2.Day,.isl false (s_2.Facts.map str),.isl false (s_2.Duties.map ah),.isl false (s_2.Balances.map I),B s_2.Over]]⟩] 65 (by kernel_rfl) ?_
 obtain⟨r3,hr3,h⟩:=bS h
 refine oq 81 (B r3) rfl (cP (Vh hr3)) ?_
 refine cq 2 [12] [B (!r3)] 113 ?_
 obtain⟨y4,hy4,hy41,hy42⟩:=bJ h
 have j4:∀u4,y4=.inr u4→Run lH 0 (iw (c_1,s_2) r) (.code (cR (cL (cR ix)))::.code (cR (cR ix))::[]) (sT 86 [(2,.hp 1 0 [] 2 0 0),(3,.hp 2 0 [] 5 0 0),(38,B u4)] [⟨0,2,[.agg [.isl false (c_1.Parties.map str),.isl false (c_1.Clauses.map aa)]]⟩,⟨0,5,[.agg [I s_2.Day,.isl false (s_2.Facts.map str),.isl false (s_2.Duties.map ah),.isl false (s_2.Balances.map I),B s_2.Over]]⟩] 3):=by
  intro u4 hu
  replace h:=hy42 u4 hu
  refine sq h (fun h=>?_) fun h=>?_
  ·refine cq 4 [4] [B false] 19 ?_
   obtain rfl:=Option.some.inj h
   exact aj rfl (qp [B false])
  ·refine aq 1 ?_
   refine cq 3 [39] [.agg [.isl false (c_1.Parties.map str),.isl false (c_1.Clauses.map aa)]] 19 ?_
   obtain⟨r5,hr5,h⟩:=bS h
   refine oq 35 (.hs 19 0 [] 1 0 (r5.map str).length) rfl (cP (OV hr5)) ?_
   refine cq 8 [5,6] [.hs 19 0 [] 1 0 (r5.map str).length,I (0)] 67 ?_
   obtain⟨y9,hy9,hy91,hy92⟩:=bJ h
   refine bG rfl ?_
   refine rf [2,3,5,6] [1,2,19] (Jd c_1 s_2 r5 rfl 0 _ hy9 (fun r' e st hq=>by rw[hy91 r' e] at hq;exact hq) fun u9 hu=>?_)
   replace h:=hy92 u9 hu
   refine cq 6 [7] [I (0)] 19 ?_
   obtain⟨y12,hy12,hy121,hy122⟩:=bJ h
   refine bG rfl ?_
   refine rf [2,3,7] [1,2] (IK c_1 s_2 rfl 0 _ hy12 (fun r' e st hq=>by rw[hy121 r' e] at hq;exact hq) fun u12 hu=>?_)
   replace h:=hy122 u12 hu
   refine cq 6 [8] [I (0)] 18 ?_
   obtain⟨y16,hy16,hy161,hy162⟩:=bJ h
   refine bG rfl ?_
   refine rf [3,8] [1] (Iq c_1 s_2 rfl 0 _ hy16 (fun r' e st hq=>by rw[hy161 r' e] at hq;exact hq) fun u16 hu=>?_)
   replace h:=hy162 u16 hu
   refine cq 4 [83] [.isl false (s_2.Balances.map I)] 34 ?_
   obtain⟨r17,hr17,h⟩:=bS h
   refine oq 50 (I r17) rfl (cP (Uc hr17)) ?_
   refine cq 3 [4] [B (r17==0)] 82 ?_
   obtain rfl:=Option.some.inj h
   exact aj rfl (qp [B (r17==0)])
 have r4:∀r',y4=.inl r'→∀st,iw (c_1,s_2) r' st→(iw (c_1,s_2) r) st:=fun r' e st hq=>by rw[hy41 r' e] at hq;exact hq
 replace h:=hy4
 refine sp 12 h rfl (fun h=>?_) fun h=>?_
 ·refine cq 27 [38] [B true] 529 ?_
  exact rf [2,3,38] [1,17] (j4 _ (Option.some.inj h).symm :)
 ·refine cq 2 [14] [I s_2.Day] 145 ?_
  obtain⟨r18,hr18,h⟩:=bS h
  refine oy 161 (B r18) rfl (cP (zV hr18)) ?_
  refine cq 3 [18] [B (!r18)] 209 ?_
  obtain⟨y19,hy19,hy191,hy192⟩:=bL h
  have j19:∀u19,y19=.inr u19→Run lH 0 (iw (c_1,s_2) r) (.code (cR (cL (cR ix)))::.code (cR (cR ix))::[]) (sT 86 [(2,.hp 1 0 [] 2 0 0),(3,.hp 2 0 [] 5 0 0),(38,B u19)] [⟨0,2,[.agg [.isl false (c_1.Parties.map str),.isl false (c_1.Clauses.map aa)]]⟩,⟨0,5,[.agg [I s_2.Day,.isl false (s_2.Facts.map str),.isl false (s_2.Duties.map ah),.isl false (s_2.Balances.map I),B s_2.Over]]⟩] 3):=by
   intro u19 hu
   replace h:=hy192 u19 hu
   exact rf [2,3,38] [1,2] (j4 _ (Option.some.inj h).symm :)
  have r19:∀r',y19=.inl r'→∀st,iw (c_1,s_2) r' st→(iw (c_1,s_2) r) st:=fun r' e st hq=>r4 r' (hy191 r' e) st hq
  replace h:=hy19
  refine sp 18 h rfl (fun h=>?_) fun h=>?_
  ·refine cq 21 [38] [B true] 529 ?_
   exact rf [2,3,38] [1,17] (j19 _ (Option.some.inj h).symm :)
  ·refine cq 2 [20] [.isl false (s_2.Facts.map str)] 241 ?_
   obtain⟨r20,hr20,h⟩:=bS h
   refine oy 257 (B r20) rfl (cP (U4 hr20)) ?_
   refine cq 3 [24] [B (!r20)] 305 ?_
   obtain⟨u21,hu21,h⟩:=lJ h
   have j21:Run lH 0 (iw (c_1,s_2) r) (.code (cR (cL (cR ix)))::.code (cR (cR ix))::[]) (sT 86 [(2,.hp 1 0 [] 2 0 0),(3,.hp 2 0 [] 5 0 0),(38,B u21)] [⟨0,2,[.agg [.isl false (c_1.Parties.map str),.isl false (c_1.Clauses.map aa)]]⟩,⟨0,5,[.agg [I s_2.Day,.isl false (s_2.Facts.map str),.isl false (s_2.Duties.map ah),.isl false (s_2.Balances.map I),B s_2.Over]]⟩] 3):=by
    exact rf [2,3,38] [1,2] (j19 _ (Option.some.inj h).symm :)
   replace h:=hu21
   clear hu21
   refine sp 24 h rfl (fun h=>?_) fun h=>?_
   ·refine cq 15 [38] [B true] 529 ?_
    subst h
    exact rf [2,3,38] [1,17] (j21 :)
   ·refine cq 2 [26] [.isl false (s_2.Duties.map ah)] 337 ?_
    refine oy 353 (I (len s_2.Duties)) rfl (aX rfl rfl rfl (bc rfl)) ?_
    refine cq 3 [30] [B (decide ((len s_2.Duties)>24))] 401 ?_
    obtain⟨u22,hu22,h⟩:=lJ h
    have j22:Run lH 0 (iw (c_1,s_2) r) (.code (cR (cL (cR ix)))::.code (cR (cR ix))::[]) (sT 86 [(2,.hp 1 0 [] 2 0 0),(3,.hp 2 0 [] 5 0 0),(38,B u22)] [⟨0,2,[.agg [.isl false (c_1.Parties.map str),.isl false (c_1.Clauses.map aa)]]⟩,⟨0,5,[.agg [I s_2.Day,.isl false (s_2.Facts.map str),.isl false (s_2.Duties.map ah),.isl false (s_2.Balances.map I),B s_2.Over]]⟩] 3):=by
     subst h
     exact rf [2,3,38] [1,2] (j21 :)
    replace h:=hu22
    clear hu22
    refine sp 30 h rfl (fun h=>?_) fun h=>?_
    ·refine cq 9 [38] [B true] 529 ?_
     subst h
     exact rf [2,3,38] [1,17] (j22 :)
    ·refine cq 2 [32] [.isl false (s_2.Balances.map I)] 433 ?_
     refine oy 449 (I (len s_2.Balances)) rfl (aX rfl rfl rfl (bc rfl)) ?_
     refine cq 2 [35] [.isl false (c_1.Parties.map str)] 481 ?_
     refine oy 497 (I (len c_1.Parties)) rfl (aX rfl rfl rfl (bc rfl)) ?_
     refine cq 3 [38] [B ((len s_2.Balances) != (len c_1.Parties))] 529 ?_
     subst h
     exact rf [2,3,38] [1,17] (j22 :)
theorem LC {G:Go.Ln.Ground}:aI Tryz.prog G 61 xZ:=gT 2 0 (aD MI (aD EG (aD Ej (aD L3 (aD LT (aD Nx (aD tK (aD OU bg)))))))) (Checked.mixed Tryz.checked) Tryz.func61 (fun a r h=>Qz a.1 a.2 r h)
def Bw:(Contract×State)→List V:=cA aG (oA bX)
def CA (r:Bool):V×List V:=(B r,[])
noncomputable def wZ:Ent:=aR [false,false] Bw CA fun x=>DM x.1 x.2
theorem NO {c_1:Contract}{s_2:State}{r}(h:DM c_1 s_2=some r):wZ.F (Bw (c_1,s_2))=some (CA r):=aC (aY aV (aB cY)) h
noncomputable def Vl:Code:=az Tryz.f17
noncomputable def MD:Env:=bF Tryz.prog [(61,xZ)]
def Vv (x:Contract×State)(r:Bool):St→Prop:=QF MD Tryz.f17 [false,false] (Bw x) (CA r)
theorem PS (c_1:Contract)(s_2:State)(r:Bool)(h:DM c_1 s_2=some r):be MD Tryz.f17 [false,false] 0 (Bw (c_1,s_2)) (CA r):=by
 show Run _ _ (Vv (c_1,s_2) r) [.code Vl] _
 refine rI 8 [(0,.agg [.isl false (c_1.Parties.map str),.isl false (c_1.Clauses.map aa)]),(1,.agg [I s_2.Day,.isl false (s_2.Facts.map str),.isl false (s_2.Duties.map ah),.isl false (s_2.Balances.map I),B s_2.Over])] [] 1 ?_
 unfold DM at h
 refine cq 10 [5,6] [.agg [.isl false (c_1.Parties.map str),.isl false (c_1.Clauses.map aa)],.agg [I s_2.Day,.isl false (s_2.Facts.map str),.isl false (s_2.Duties.map ah),.isl false (s_2.Balances.map I),B s_2.Over]] 81 ?_
 obtain⟨r3,hr3,h⟩:=bS h
 refine oq 97 (B r3) rfl (cP (V5 hr3)) ?_
 refine cq 2 [4] [B r3] 113 ?_
 obtain rfl:=Option.some.inj h
 exact aj rfl (qp [B r3])
theorem N9 {G:Go.Ln.Ground}:aI Tryz.prog G 17 wZ:=gT 2 0 (aD LC bg) (Checked.mixed Tryz.checked) Tryz.func17 (fun a r h=>PS a.1 a.2 r h)
def Fv:(Int×Int×Int)→List V:=cA I (cA I (oA I))
def FT (r:Bool):V×List V:=(B r,[])
noncomputable def iR:Ent:=aR [false,false,false] Fv FT fun x=>kd x.1 x.2.1 x.2.2
theorem iX {n_1:Int}{low_2:Int}{high_3:Int}{r}(h:kd n_1 low_2 high_3=some r):iR.F (Fv (n_1,low_2,high_3))=some (FT r):=aC (aY bO (aY bO (aB bO))) h
noncomputable def Si:Code:=az Tryz.f86
noncomputable def J0:Env:=bF Tryz.prog []
def Sn (x:Int×Int×Int)(r:Bool):St→Prop:=QF J0 Tryz.f86 [false,false,false] (Fv x) (FT r)
theorem S1 (n_1:Int)(low_2:Int)(high_3:Int)(r:Bool)(h:kd n_1 low_2 high_3=some r):be J0 Tryz.f86 [false,false,false] 0 (Fv (n_1,low_2,high_3)) (FT r):=by
 show Run _ _ (Sn (n_1,low_2,high_3) r) [.code Si] _
 refine rI 15 [(0,I n_1),(1,I low_2),(2,I high_3)] [] 1 ?_
 unfold kd at h
 refine cq 10 [10] [B (decide (n_1≥low_2))] 81 ?_
 obtain⟨u4,hu4,h⟩:=lJ h
 have j4:Run J0 0 (Sn (n_1,low_2,high_3) r) (.code (cR (cR Si))::[]) (sT 15 [(6,B u4)] [] 1):=by
  obtain rfl:=Option.some.inj h
  exact aj rfl (qp [B u4])
 replace h:=hu4
 clear hu4
 refine sp 10 h rfl (fun h=>?_) fun h=>?_
 ·refine cq 6 [6] [B (decide (n_1≤high_3))] 161 ?_
  subst h
  exact rf [6] [] (j4 :)
 ·refine cq 6 [6] [B false] 161 ?_
  subst h
  exact rf [6] [] (j4 :)
theorem jr {G:Go.Ln.Ground}:aI Tryz.prog G 86 iR:=gT 3 0 bg (Checked.mixed Tryz.checked) Tryz.func86 (fun a r h=>S1 a.1 a.2.1 a.2.2 r h)
noncomputable def ig:Ent:=⟨[false,false],sA (mE str) (mE (V.int .u8)) fun s c=>some (I ((Lib.countByte s c.toNat.toUInt8:Nat):Int),[])⟩
theorem C7 {s:ae}{c r:Int}(h:ul s c=some r):ig.F [str s,.int .u8 c]=some (I r,[]):=by
 cases h
 simp only[ig,sA,za bm,za Pt,Option.bind_some]
theorem D2:Extern.findNext Tryz.f266=none:=by kernel_rfl
theorem DS:Extern.find Tryz.f266=some Extern.BytealgCount.count:=by kernel_rfl
theorem vn {G:Go.Ln.Ground}:aI Tryz.prog G 266 ig:=Je (g:=fun s c=>((Lib.countByte s c.toNat.toUInt8:Nat):Int)) Tryz.func266 rfl (by decide) D2 DS fun s c w=>Lib.run_countString s c w
noncomputable def fI:Ent:=⟨[false,false],sA (mE str) (mE (V.int .u8)) fun s c=>some (I (Lib.indexByte s c.toNat.toUInt8),[])⟩
theorem uq {s:ae}{c r:Int}(h:oP s c=some r):fI.F [str s,.int .u8 c]=some (I r,[]):=by
 cases h
 simp only[fI,sA,za bm,za Pt,Option.bind_some]
theorem tt:Extern.findNext Tryz.f286=none:=by kernel_rfl
theorem tA:Extern.find Tryz.f286=some Extern.BytealgIndexByte.indexByte:=by kernel_rfl
theorem rc {G:Go.Ln.Ground}:aI Tryz.prog G 286 fI:=Je (g:=fun s c=>Lib.indexByte s c.toNat.toUInt8) Tryz.func286 rfl (by decide) tt tA fun s c w=>Lib.run_indexByteString s c w
def E5:(ae×Int)→List V:=cA str (oA (V.int .u8))
def Fd (r:Int):V×List V:=(I r,[])
noncomputable def DJ:Ent:=aR [false,false] E5 Fd fun x=>Nl x.1 x.2
theorem WY {s_1:ae}{c_2:Int}{r}(h:Nl s_1 c_2=some r):DJ.F (E5 (s_1,c_2))=some (Fd r):=aC (aY bm (aB (HO (k:=.u8)))) h
noncomputable def WS:Code:=az Tryz.f277
noncomputable def R7:Env:=bF Tryz.prog [(286,fI)]
def WB (x:ae×Int)(r:Int):St→Prop:=QF R7 Tryz.f277 [false,false] (E5 x) (Fd r)
theorem TZ (s_1:ae)(c_2:Int)(r:Int)(h:Nl s_1 c_2=some r):be R7 Tryz.f277 [false,false] 0 (E5 (s_1,c_2)) (Fd r):=by
 show Run _ _ (WB (s_1,c_2) r) [.code WS] _
 refine rI 8 [(0,str s_1),(1,.int .u8 c_2)] [] 1 ?_
 unfold Nl at h
 refine cq 8 [5,6] [str s_1,.int .u8 c_2] 49 ?_
 obtain⟨r3,hr3,h⟩:=bS h
 refine oq 65 (I r3) rfl (cP (uq hr3)) ?_
 refine cq 2 [4] [I r3] 81 ?_
 obtain rfl:=Option.some.inj h
 exact aj rfl (qp [I r3])
theorem Pv {G:Go.Ln.Ground}:aI Tryz.prog G 277 DJ:=gT 2 0 (aD rc bg) (Checked.mixed Tryz.checked) Tryz.func277 (fun a r h=>TZ a.1 a.2 r h)
def E8:(ae×ae)→List V:=cA str (oA str)
def Fw (r:Int):V×List V:=(I r,[])
noncomputable def Ds:Ent:=aR [false,false] E8 Fw fun x=>M3 x.1 x.2
theorem WC {s_1:ae}{substr_2:ae}{r}(h:M3 s_1 substr_2=some r):Ds.F (E8 (s_1,substr_2))=some (Fw r):=aC (aY bm (aB bm)) h
noncomputable def KY:Code:=az Tryz.f267
noncomputable def J1:Env:=bF Tryz.prog [(277,DJ)]
def Ss (x:ae×ae)(r:Int):St→Prop:=QF J1 Tryz.f267 [false,false] (E8 x) (Fw r)
theorem Ti (s_1:ae)(substr_2:ae)(r:Int)(h:M3 s_1 substr_2=some r):be J1 Tryz.f267 [false,false] 0 (E8 (s_1,substr_2)) (Fw r):=by
 show Run _ _ (Ss (s_1,substr_2) r) [.code KY] _
 refine rI 143 [(0,str s_1),(1,str substr_2)] [] 1 ?_
 unfold M3 at h
 refine cq 17 [5,19] [I (len substr_2),B ((len substr_2)==0)] 113 ?_
 obtain⟨u3,hu3,h⟩:=lJ h
 have j3:Run J1 0 (Ss (s_1,substr_2) r) (.code (cR (cL (cL (cR (cR KY)))))::.blk 0::.code (cR (cR (cR KY)))::[]) (sT 143 [(0,str s_1),(1,str substr_2),(5,I (len substr_2)),(16,B u3)] [] 1):=by
  refine sq h (fun h=>?_) fun h=>?_
  ·refine cq 4 [4] [I (0)] 17 ?_
   obtain rfl:=Option.some.inj h
   exact aj rfl (qp [I (0)])
  ·refine cq 6 [24] [B ((len substr_2)==1)] 49 ?_
   refine sq h (fun h=>?_) fun h=>?_
   ·refine cq 4 [27,28] [str s_1,str substr_2] 81 ?_
    obtain⟨c4,hc4,h⟩:=bS h
    refine oq 97 (.int .u8 (c4.toNat:Int)) rfl (kR rfl rfl (px rfl rfl hc4)) ?_
    obtain⟨r5,hr5,h⟩:=bS h
    refine oq 113 (I r5) rfl (cP (WY hr5)) ?_
    refine cq 2 [4] [I r5] 129 ?_
    obtain rfl:=Option.some.inj h
    exact aj rfl (qp [I r5])
   ·refine cq 8 [31] [B (decide ((len substr_2)≥(len s_1)))] 129 ?_
    refine sq h (fun h=>?_) fun h=>?_
    ·refine cq 4 [4] [I (-1)] 145 ?_
     obtain rfl:=Option.some.inj h
     exact aj rfl (qp [I (-1)])
    ·cases h
 replace h:=hu3
 clear hu3
 refine sp 19 h rfl (fun h=>?_) fun h=>?_
 ·refine cq 6 [16] [B true] 193 ?_
  subst h
  exact rf [0,1,5,16] [] (j3 :)
 ·refine cq 6 [16] [B (substr_2==s_1)] 193 ?_
  subst h
  exact rf [0,1,5,16] [] (j3 :)
theorem PN {G:Go.Ln.Ground}:aI Tryz.prog G 267 Ds:=gT 2 0 (aD Pv bg) (Checked.mixed Tryz.checked) Tryz.func267 (fun a r h=>Ti a.1 a.2 r h)
def BA:(ae×ae)→List V:=cA str (oA str)
def B8 (r:Int):V×List V:=(I r,[])
noncomputable def rq:Ent:=aR [false,false] BA B8 fun x=>Du x.1 x.2
theorem NN {s_1:ae}{substr_2:ae}{r}(h:Du s_1 substr_2=some r):rq.F (BA (s_1,substr_2))=some (B8 r):=aC (aY bm (aB bm)) h
noncomputable def UZ:Code:=az Tryz.f247
noncomputable def LP:Env:=bF Tryz.prog [(267,Ds)]
def Vw (x:ae×ae)(r:Int):St→Prop:=QF LP Tryz.f247 [false,false] (BA x) (B8 r)
theorem Rp (s_1:ae)(substr_2:ae)(r:Int)(h:Du s_1 substr_2=some r):be LP Tryz.f247 [false,false] 0 (BA (s_1,substr_2)) (B8 r):=by
 show Run _ _ (Vw (s_1,substr_2) r) [.code UZ] _
 refine rI 8 [(0,str s_1),(1,str substr_2)] [] 1 ?_
 unfold Du at h
 refine cq 8 [5,6] [str s_1,str substr_2] 49 ?_
 obtain⟨r3,hr3,h⟩:=bS h
 refine oq 65 (I r3) rfl (cP (WC hr3)) ?_
 refine cq 2 [4] [I r3] 81 ?_
 obtain rfl:=Option.some.inj h
 exact aj rfl (qp [I r3])
theorem Ey {G:Go.Ln.Ground}:aI Tryz.prog G 247 rq:=gT 2 0 (aD PN bg) (Checked.mixed Tryz.checked) Tryz.func247 (fun a r h=>Rp a.1 a.2 r h)
def Cz:(ae×ae)→List V:=cA str (oA str)
def B1 (r:Int):V×List V:=(I r,[])
noncomputable def xg:Ent:=aR [false,false] Cz B1 fun x=>G4 x.1 x.2
theorem UQ {s_1:ae}{substr_2:ae}{r}(h:G4 s_1 substr_2=some r):xg.F (Cz (s_1,substr_2))=some (B1 r):=aC (aY bm (aB bm)) h
noncomputable def N5:Code:=az Tryz.f246
noncomputable def F0:Env:=bF Tryz.prog [(266,ig),(247,rq)]
def OX (x:ae×ae)(r:Int):St→Prop:=QF F0 Tryz.f246 [false,false] (Cz x) (B1 r)
theorem Im (s_1:ae)(substr_2:ae):cd F0 0 (OX (s_1,substr_2)) (cL (cL (cR (cR (cR (cR N5)))))) 0 (Jq s_1 substr_2) (fun u=>(sT 34 [] [] 1)) fun x5=>(sT 34 [(0,str x5.1),(1,str substr_2),(5,I x5.2)] [] 1):=dT (IU s_1 substr_2) fun {Q K} hK self ih x5 y h hr hn=>by
 unfold pB at h
 refine cq 5 [20,21] [str x5.1,str substr_2] 33 ?_
 obtain⟨r6,hr6,h⟩:=bS h
 refine oq 49 (I r6) rfl (cP (NN hr6)) ?_
 refine cq 8 [6,24] [I r6,B (r6==(-1))] 97 ?_
 refine sq h (fun h=>?_) fun h=>?_
 ·refine cq 5 [4] [I x5.2] 129 ?_
  exact aj rfl (hr _ (Option.some.inj h).symm _ (qp [I x5.2]))
 ·refine aq 1 ?_
  refine cq 12 [5,28,32] [I (ar (x5.2+1)),str x5.1,I (ar (r6+(len substr_2)))] 225 ?_
  obtain⟨s7,hs7,h⟩:=bS h
  refine oq 241 (str s7) rfl (gf rfl rfl rfl rfl (Gz rfl rfl rfl hs7)) ?_
  refine cq 3 [0] [str s7] 257 ?_
  refine cG ?_
  exact rf [0,1,5] [] (ih _ _ h hr hn :)
theorem Qp (s_1:ae)(substr_2:ae)(r:Int)(h:G4 s_1 substr_2=some r):be F0 Tryz.f246 [false,false] 0 (Cz (s_1,substr_2)) (B1 r):=by
 show Run _ _ (OX (s_1,substr_2) r) [.code N5] _
 refine rI 34 [(0,str s_1),(1,str substr_2)] [] 1 ?_
 unfold G4 at h
 refine cq 11 [9] [B ((len substr_2)==0)] 65 ?_
 refine sq h (fun h=>?_) fun h=>?_
 ·cases h
 ·refine aq 1 ?_
  refine cq 7 [15] [B ((len substr_2)==1)] 113 ?_
  refine sq h (fun h=>?_) fun h=>?_
  ·refine cq 4 [16,17] [str s_1,str substr_2] 145 ?_
   obtain⟨c3,hc3,h⟩:=bS h
   refine oq 161 (.int .u8 (c3.toNat:Int)) rfl (kR rfl rfl (px rfl rfl hc3)) ?_
   obtain⟨r4,hr4,h⟩:=bS h
   refine oq 177 (I r4) rfl (cP (C7 hr4)) ?_
   refine cq 2 [4] [I r4] 193 ?_
   obtain rfl:=Option.some.inj h
   exact aj rfl (qp [I r4])
  ·refine aq 1 ?_
   refine cq 5 [5] [I (0)] 129 ?_
   obtain⟨y8,hy8,hy81,hy82⟩:=bJ h
   refine bG rfl ?_
   refine rf [0,1,5] [] (Im s_1 substr_2 rfl (s_1,0) _ hy8 (fun r' e st hq=>by rw[hy81 r' e] at hq;exact hq) fun u8 hu=>?_)
   replace h:=hy82 u8 hu
   cases h
theorem O7 {G:Go.Ln.Ground}:aI Tryz.prog G 246 xg:=gT 2 0 (aD vn (aD Ey bg)) (Checked.mixed Tryz.checked) Tryz.func246 (fun a r h=>Qp a.1 a.2 r h)
def CY:(ae×ae×Int×Int)→List V:=cA str (cA str (cA I (oA I)))
def A4 (r:(List ae)):V×List V:=(.usl 1 (r.map str),[])
noncomputable def wC:Ent:=aR [false,false,false,false] CY A4 fun x=>HN x.1 x.2.1 x.2.2.1 x.2.2.2
theorem T7 {s_1:ae}{sep_2:ae}{sepSave_3:Int}{n_4:Int}{r}(h:HN s_1 sep_2 sepSave_3 n_4=some r):wC.F (CY (s_1,sep_2,sepSave_3,n_4))=some (A4 r):=aC (aY bm (aY bm (aY bO (aB bO)))) h
noncomputable def Hg:Code:=az Tryz.f227
noncomputable abbrev SK:Code:=cL (cL (cL (cR (cR (cR (cR (cR (cR (cR (cR Hg))))))))))
noncomputable def ze:Env:=bF Tryz.prog [(247,rq),(246,xg)]
def tc (x:ae×ae×Int×Int)(r:(List ae)):St→Prop:=QF ze Tryz.f227 [false,false,false,false] (CY x) (A4 r)
theorem I3 (s_1:ae)(sep_2:ae)(sepSave_3:Int)(n_4:Int)(u5:Int):cd ze 0 (tc (s_1,sep_2,sepSave_3,n_4)) SK 0 (vf s_1 sep_2 sepSave_3 n_4 u5) (fun u=>(sT 66 [(0,str u.1),(9,.hs 1 0 [] 1 0 (u.2.2.map str).length),(10,I u.2.1)] [⟨0,1,u.2.2.map str⟩] 2)) fun x7=>(sT 66 [(0,str x7.1),(1,str sep_2),(2,I sepSave_3),(3,I (ar ((if (ar ((len s_1)+1))<u5 then (ar ((len s_1)+1)) else u5) - 1))),(9,.hs 1 0 [] 1 0 (x7.2.2.map str).length),(10,I x7.2.1)] [⟨0,1,x7.2.2.map str⟩] 2):=dT (v8 s_1 sep_2 sepSave_3 n_4 u5) fun {Q K} hK self ih x7 y h hr hn=>by
 unfold po at h
 refine cq 7 [36] [B (decide (x7.2.1<(ar ((if (ar ((len s_1)+1))<u5 then (ar ((len s_1)+1)) else u5) - 1))))] 50 ?_
 refine sq h (fun h=>?_) fun h=>?_
 ·refine aq 1 ?_
  refine cq 5 [37,38] [str x7.1,str sep_2] 82 ?_
  obtain⟨r8,hr8,h⟩:=bS h
  refine oq 98 (I r8) rfl (cP (NN hr8)) ?_
  refine cq 8 [11,41] [I r8,B (decide (r8<0))] 146 ?_
  refine sq h (fun h=>?_) fun h=>?_
  ·refine aq 1 ?_
   exact rf [0,9,10] [1] (hn _ (Option.some.inj h).symm :) (hk:=hK)
  ·refine aq 1 ?_
   refine cq 8 [42,43,44,47] [.hs 1 0 [] 1 0 (x7.2.2.map str).length,I x7.2.1,str x7.1,I (ar (r8+sepSave_3))] 242 ?_
   obtain⟨s9,hs9,h⟩:=bS h
   refine oq 258 (str s9) rfl (gf rfl rfl rfl rfl (Gz rfl rfl rfl hs9)) ?_
   obtain⟨e10,he10,h⟩:=bS h
   refine oq 274 (.hp 1 0 [] 1 (0+Int.toNat x7.2.1) 0) rfl (ap rfl rfl rfl (gO (f:=str) (xs:=x7.2.2) rfl rfl rfl he10)) ?_
   refine o0 290 rfl rfl (gc rfl rfl (eP (path:=[]) (pl:=true) (e':=str s9) (es2':=(eu x7.2.2 x7.2.1 s9).map str) rfl (eD rfl) rfl rfl rfl aZ (fO (f:=str) (xs:=x7.2.2) he10) rfl rfl rfl (lb (f:=str) (xs:=x7.2.2) (y:=s9)) dU 0 rfl)) ?_
   try rw[←jf (f:=str) (xs:=x7.2.2) (i:=x7.2.1) (z:=s9)]
   refine cq 8 [50,54] [str x7.1,I (ar (r8+(len sep_2)))] 370 ?_
   obtain⟨s11,hs11,h⟩:=bS h
   refine oq 386 (str s11) rfl (gf rfl rfl rfl rfl (Gz rfl rfl rfl hs11)) ?_
   refine cq 8 [0,10] [str s11,I (ar (x7.2.1+1))] 450 ?_
   refine cG ?_
   exact rf [0,1,2,3,9,10] [1] (ih _ _ h hr hn :)
 ·refine aq 1 ?_
  exact rf [0,9,10] [1] (hn _ (Option.some.inj h).symm :) (hk:=hK)
theorem RL (s_1:ae)(sep_2:ae)(sepSave_3:Int)(n_4:Int)(r:(List ae))(h:HN s_1 sep_2 sepSave_3 n_4=some r):be ze Tryz.f227 [false,false,false,false] 0 (CY (s_1,sep_2,sepSave_3,n_4)) (A4 r):=by
 show Run _ _ (tc (s_1,sep_2,sepSave_3,n_4) r) [.code Hg] _
 refine rI 66 [(0,str s_1),(1,str sep_2),(2,I sepSave_3),(3,I n_4)] [] 1 ?_
 unfold HN at h
 refine cq 10 [13] [B (n_4==0)] 49 ?_
 refine sq h (fun h=>?_) fun h=>?_
 ·refine cq 4 [8] [.isl true []] 65 ?_
  refine Ts 8 0 1 81 (.hs 65 0 [] 1 0 0) rfl rfl rfl rfl rfl ?_
  obtain rfl:=Option.some.inj h
  exact aj rfl ⟨_,fin (vs:=[.hs 65 0 [] 1 0 0]) rfl (fB (fk rfl (cN (k:=0) (es:=[]) rfl rfl)) et) rfl (eZ (eZ (eZ (eZ fK)))),fD⟩
 ·refine aq 1 ?_
  refine cq 6 [15] [B (sep_2==([]:ae))] 81 ?_
  refine sq h (fun h=>?_) fun h=>?_
  ·cases h
  ·refine aq 1 ?_
   refine cq 6 [20] [B (decide (n_4<0))] 113 ?_
   obtain⟨y5,hy5,hy51,hy52⟩:=bJ h
   have j5:∀u5,y5=.inr u5→Run ze 0 (tc (s_1,sep_2,sepSave_3,n_4) r) (.code (cR (cR (cR (cR Hg))))::[]) (sT 66 [(0,str s_1),(1,str sep_2),(2,I sepSave_3),(3,I u5)] [] 1):=by
    intro u5 hu
    replace h:=hy52 u5 hu
    refine cq 12 [3,30] [I (if (ar ((len s_1)+1))<u5 then (ar ((len s_1)+1)) else u5),I (if (ar ((len s_1)+1))<u5 then (ar ((len s_1)+1)) else u5)] 113 ?_
    obtain⟨m6,hm6,h⟩:=bS h
    refine oq 129 (.hs 113 0 [] 1 0 (m6.map str).length) rfl (iM rfl rfl (Ah (f:=str) rfl rfl rfl (by decide) hm6 rfl)) ?_
    refine cq 14 [3,9,10] [I (ar ((if (ar ((len s_1)+1))<u5 then (ar ((len s_1)+1)) else u5) - 1)),.hs 113 0 [] 1 0 (m6.map str).length,I (0)] 209 ?_
    obtain⟨y12,hy12,hy121,hy122⟩:=bJ h
    refine bG rfl ?_
    refine rf [0,1,2,3,9,10] [113] (I3 s_1 sep_2 sepSave_3 n_4 u5 rfl (s_1,0,m6) _ hy12 (fun r' e st hq=>by rw[hy121 r' e] at hq;exact hq) fun u12 hu=>?_)
    replace h:=hy122 u12 hu
    refine cq 5 [58,59,60] [.hs 1 0 [] 1 0 (u12.2.2.map str).length,I u12.2.1,str u12.1] 50 ?_
    obtain⟨e13,he13,h⟩:=bS h
    refine oq 66 (.hp 1 0 [] 1 (0+Int.toNat u12.2.1) 0) rfl (ap rfl rfl rfl (gO (f:=str) (xs:=u12.2.2) rfl rfl rfl he13)) ?_
    refine o0 82 rfl rfl (gc rfl rfl (eP (path:=[]) (pl:=true) (e':=str u12.1) (es2':=(eu u12.2.2 u12.2.1 u12.1).map str) rfl (eD rfl) rfl rfl rfl aZ (fO (f:=str) (xs:=u12.2.2) he13) rfl rfl rfl (lb (f:=str) (xs:=u12.2.2) (y:=u12.1)) dU 0 rfl)) ?_
    try rw[←jf (f:=str) (xs:=u12.2.2) (i:=u12.2.1) (z:=u12.1)]
    refine cq 6 [62,64] [.hs 1 0 [] 1 0 ((eu u12.2.2 u12.2.1 u12.1).map str).length,I (ar (u12.2.1+1))] 130 ?_
    obtain⟨s14,hs14,h⟩:=bS h
    refine oq 146 (.hs 1 0 [] 1 (0+Int.toNat (0)) (Int.toNat (ar (u12.2.1+1)) - Int.toNat (0))) rfl (gf rfl rfl rfl rfl (qF (f:=str) (xs:=(eu u12.2.2 u12.2.1 u12.1)) rfl rfl rfl rfl rfl hs14)) ?_
    refine cq 2 [8] [.hs 1 0 [] 1 (0+Int.toNat (0)) (Int.toNat (ar (u12.2.1+1)) - Int.toNat (0))] 162 ?_
    obtain⟨p15,hp15,h⟩:=bS h
    obtain rfl:=Option.some.inj h
    exact aj rfl ⟨_,fin (vs:=[.hs 1 0 [] 1 (0+Int.toNat (0)) (Int.toNat (ar (u12.2.1+1)) - Int.toNat (0))]) rfl (fB (fk rfl (LG (path:=[]) (f:=str) (xs:=(eu u12.2.2 u12.2.1 u12.1)) rfl rfl aZ hp15 rfl ym)) et) rfl (eZ (eZ (eZ (eZ fK)))),fD⟩
   have r5:∀r',y5=.inl r'→∀st,tc (s_1,sep_2,sepSave_3,n_4) r' st→(tc (s_1,sep_2,sepSave_3,n_4) r) st:=fun r' e st hq=>by rw[hy51 r' e] at hq;exact hq
   replace h:=hy5
   refine sq h (fun h=>?_) fun h=>?_
   ·refine cq 3 [21,22] [str s_1,str sep_2] 145 ?_
    obtain⟨r16,hr16,h⟩:=bS h
    refine oq 161 (I r16) rfl (cP (UQ hr16)) ?_
    refine cq 3 [3] [I (ar (r16+1))] 193 ?_
    exact rf [0,1,2,3] [] (j5 _ (Option.some.inj h).symm :)
   ·refine aq 1 ?_
    exact rf [0,1,2,3] [] (j5 _ (Option.some.inj h).symm :)
theorem Pg {G:Go.Ln.Ground}:aI Tryz.prog G 227 wC:=gT 4 0 (aD Ey (aD O7 bg)) (Checked.mixed Tryz.checked) Tryz.func227 (fun a r h=>RL a.1 a.2.1 a.2.2.1 a.2.2.2 r h)
def Bz:(ae×ae)→List V:=cA str (oA str)
def Am (r:(List ae)):V×List V:=(.usl 1 (r.map str),[])
noncomputable def xl:Ent:=aR [false,false] Bz Am fun x=>xD x.1 x.2
theorem Ul {s_1:ae}{sep_2:ae}{r}(h:xD s_1 sep_2=some r):xl.F (Bz (s_1,sep_2))=some (Am r):=aC (aY bm (aB bm)) h
noncomputable def Vn:Code:=az Tryz.f201
noncomputable def N2:Env:=bF Tryz.prog [(227,wC)]
def UR (x:ae×ae)(r:(List ae)):St→Prop:=QF N2 Tryz.f201 [false,false] (Bz x) (Am r)
theorem PI (s_1:ae)(sep_2:ae)(r:(List ae))(h:xD s_1 sep_2=some r):be N2 Tryz.f201 [false,false] 0 (Bz (s_1,sep_2)) (Am r):=by
 show Run _ _ (UR (s_1,sep_2) r) [.code Vn] _
 refine rI 8 [(0,str s_1),(1,str sep_2)] [] 1 ?_
 unfold xD at h
 refine cq 8 [5,6] [str s_1,str sep_2] 49 ?_
 obtain⟨r3,hr3,h⟩:=bS h
 refine oq 65 (.hs 49 0 [] 1 0 (r3.map str).length) rfl (cP (T7 hr3)) ?_
 refine cq 2 [4] [.hs 49 0 [] 1 0 (r3.map str).length] 81 ?_
 obtain rfl:=Option.some.inj h
 exact aj rfl ⟨_,fin (vs:=[.hs 49 0 [] 1 0 (r3.map str).length]) rfl (fB (fk rfl (cN rfl rfl)) et) rfl (eZ (eZ fK)),fD⟩
theorem My {G:Go.Ln.Ground}:aI Tryz.prog G 201 xl:=gT 2 0 (aD Pg bg) (Checked.mixed Tryz.checked) Tryz.func201 (fun a r h=>PI a.1 a.2 r h)
def C3:((List ae)×ae)→List V:=cA (ew str) (oA str)
def Bs (r:Int):V×List V:=(I r,[])
noncomputable def xb:Ent:=aR [false,false] C3 Bs fun x=>xS x.1 x.2
theorem US {s_1:List ae}{v_2:ae}{r}(h:xS s_1 v_2=some r):xb.F (C3 (s_1,v_2))=some (Bs r):=aC (aY (bz bm) (aB bm)) h
noncomputable def Mn:Code:=az Tryz.f189
noncomputable def Hm:Env:=bF Tryz.prog []
def Oy (x:(List ae)×ae)(r:Int):St→Prop:=QF Hm Tryz.f189 [false,false] (C3 x) (Bs r)
theorem IR (s_1:List ae)(v_2:ae):cd Hm 0 (Oy (s_1,v_2)) (cL (cL (cR (cL (cR Mn))))) 0 (nY s_1 v_2) (fun u=>(sT 19 [] [] 1)) fun x3=>(sT 19 [(0,.isl false (s_1.map str)),(1,str v_2),(7,I (len s_1)),(8,I x3)] [] 1):=dT (vy s_1 v_2) fun {Q K} hK self ih x3 y h hr hn=>by
 unfold jq at h
 refine cq 5 [9] [B (decide (x3<(len s_1)))] 17 ?_
 refine sq h (fun h=>?_) fun h=>?_
 ·refine aq 1 ?_
  refine cq 12 [5,11,12,13] [I x3,str v_2,.isl false (s_1.map str),I x3] 97 ?_
  obtain⟨e4,he4,h⟩:=bS h
  refine oq 113 (.iptr (str e4) 0) rfl (ap rfl rfl rfl (aQ rfl rfl rfl rfl he4)) ?_
  refine cq 3 [16] [B (v_2==e4)] 145 ?_
  refine sq h (fun h=>?_) fun h=>?_
  ·refine cq 5 [4] [I x3] 177 ?_
   exact aj rfl (hr _ (Option.some.inj h).symm _ (qp [I x3]))
  ·refine aq 1 ?_
   refine cq 5 [8] [I (ar (x3+1))] 177 ?_
   refine cG ?_
   exact rf [0,1,7,8] [] (ih _ _ h hr hn :)
 ·refine aq 1 ?_
  exact rf [] [] (hn _ (Option.some.inj h).symm :) (hk:=hK)
theorem Ru (s_1:List ae)(v_2:ae)(r:Int)(h:xS s_1 v_2=some r):be Hm Tryz.f189 [false,false] 0 (C3 (s_1,v_2)) (Bs r):=by
 show Run _ _ (Oy (s_1,v_2) r) [.code Mn] _
 refine rI 19 [(0,.isl false (s_1.map str)),(1,str v_2)] [] 1 ?_
 unfold xS at h
 refine cq 8 [6] [.isl false (s_1.map str)] 33 ?_
 refine oq 49 (I (len s_1)) rfl (aX rfl rfl rfl (bc rfl)) ?_
 refine cq 3 [8] [I (0)] 65 ?_
 obtain⟨y5,hy5,hy51,hy52⟩:=bJ h
 refine bG rfl ?_
 refine rf [0,1,7,8] [] (IR s_1 v_2 rfl 0 _ hy5 (fun r' e st hq=>by rw[hy51 r' e] at hq;exact hq) fun u5 hu=>?_)
 replace h:=hy52 u5 hu
 refine cq 4 [4] [I (-1)] 17 ?_
 obtain rfl:=Option.some.inj h
 exact aj rfl (qp [I (-1)])
theorem MS {G:Go.Ln.Ground}:aI Tryz.prog G 189 xb:=gT 2 0 bg (Checked.mixed Tryz.checked) Tryz.func189 (fun a r h=>Ru a.1 a.2 r h)
def Bu:((List ae)×ae)→List V:=cA (ew str) (oA str)
def B4 (r:Bool):V×List V:=(B r,[])
noncomputable def ow:Ent:=aR [false,false] Bu B4 fun x=>oD x.1 x.2
theorem Hk {s_1:List ae}{v_2:ae}{r}(h:oD s_1 v_2=some r):ow.F (Bu (s_1,v_2))=some (B4 r):=aC (aY (bz bm) (aB bm)) h
noncomputable def VG:Code:=az Tryz.f130
noncomputable def L0:Env:=bF Tryz.prog [(189,xb)]
def Uy (x:(List ae)×ae)(r:Bool):St→Prop:=QF L0 Tryz.f130 [false,false] (Bu x) (B4 r)
theorem Rq (s_1:List ae)(v_2:ae)(r:Bool)(h:oD s_1 v_2=some r):be L0 Tryz.f130 [false,false] 0 (Bu (s_1,v_2)) (B4 r):=by
 show Run _ _ (Uy (s_1,v_2) r) [.code VG] _
 refine rI 9 [(0,.isl false (s_1.map str)),(1,str v_2)] [] 1 ?_
 unfold oD at h
 refine cq 8 [5,6] [.isl false (s_1.map str),str v_2] 49 ?_
 obtain⟨r3,hr3,h⟩:=bS h
 refine oq 65 (I r3) rfl (cP (US hr3)) ?_
 refine cq 3 [4] [B (decide (r3≥0))] 97 ?_
 obtain rfl:=Option.some.inj h
 exact aj rfl (qp [B (decide (r3≥0))])
theorem uG {G:Go.Ln.Ground}:aI Tryz.prog G 130 ow:=gT 2 0 (aD MS bg) (Checked.mixed Tryz.checked) Tryz.func130 (fun a r h=>Rq a.1 a.2 r h)
def E7:ae→List V:=oA str
def Fx (r:Bool):V×List V:=(B r,[])
noncomputable def nW:Ent:=aR [false] E7 Fx fun x=>sP x
theorem AU {s_1:ae}{r}(h:sP s_1=some r):nW.F (E7 s_1)=some (Fx r):=aC (aB bm) h
noncomputable def uN:Code:=az Tryz.f159
noncomputable abbrev oo:Code:=cL (cL (cR (cL (cR (cR uN)))))
noncomputable abbrev Cb:Code:=cR (cR (cR oo))
noncomputable abbrev Aa:Code:=cR (cR (cR (cL (cL (cR (cR oo))))))
noncomputable def nR:Env:=bF Tryz.prog [(86,iR),(201,xl),(130,ow)]
def ph (x:ae)(r:Bool):St→Prop:=QF nR Tryz.f159 [false] (E7 x) (Fx r)
theorem Ks (s_1:ae):cd nR 0 (ph s_1) oo 0 (ue s_1) (fun u=>(sT 46 [(0,str s_1)] [] 1)) fun x4=>(sT 46 [(0,str s_1),(20,I (len s_1)),(21,I x4)] [] 1):=dT (CN s_1) fun {Q K} hK self ih x4 y h hr hn=>by
 unfold mf at h
 refine cq 5 [22] [B (decide (x4<(len s_1)))] 17 ?_
 refine sq h (fun h=>?_) fun h=>?_
 ·refine aq 1 ?_
  refine cq 11 [24,25] [str s_1,I x4] 81 ?_
  obtain⟨c5,hc5,h⟩:=bS h
  refine oq 97 (.int .u8 (c5.toNat:Int)) rfl (kR rfl rfl (px rfl rfl hc5)) ?_
  refine cq 7 [4,29] [.int .u8 (c5.toNat:Int),B (decide ((c5.toNat:Int)<97))] 161 ?_
  obtain⟨u6,hu6,h⟩:=lJ h
  have j6:Run nR 0 Q (.code Aa::.blk 1::.code Cb::.lp oo::.blk 0::K) (sT 46 [(0,str s_1),(20,I (len s_1)),(21,I x4),(40,B u6)] [] 1):=by
   refine sq h (fun h=>?_) fun h=>?_
   ·refine cq 4 [2] [B false] 17 ?_
    exact aj rfl (hr _ (Option.some.inj h).symm _ (qp [B false]))
   ·refine aq 1 ?_
    refine cq 5 [21] [I (ar (x4+1))] 33 ?_
    refine cG ?_
    exact rf [0,20,21] [] (ih _ _ h hr hn :)
  replace h:=hu6
  clear hu6
  refine sp 29 h rfl (fun h=>?_) fun h=>?_
  ·refine cq 7 [33,36] [B true,B (decide ((c5.toNat:Int)<48))] 273 ?_
   obtain⟨u7,hu7,h⟩:=lJ h
   have j7:Run nR 0 Q (.code Aa::.blk 1::.code Cb::.lp oo::.blk 0::K) (sT 46 [(0,str s_1),(20,I (len s_1)),(21,I x4),(40,B u7)] [] 1):=by
    subst h
    exact rf [0,20,21,40] [] (j6 :)
   replace h:=hu7
   clear hu7
   refine sp 36 h rfl (fun h=>?_) fun h=>?_
   ·refine cq 5 [40] [B true] 337 ?_
    subst h
    exact rf [0,20,21,40] [] (j7 :)
   ·refine cq 5 [40] [B (decide ((c5.toNat:Int)>57))] 337 ?_
    subst h
    exact rf [0,20,21,40] [] (j7 :)
  ·refine cq 4 [33] [B (decide ((c5.toNat:Int)>122))] 225 ?_
   obtain⟨u8,hu8,h⟩:=lJ h
   have j8:Run nR 0 Q (.code Aa::.blk 1::.code Cb::.lp oo::.blk 0::K) (sT 46 [(0,str s_1),(20,I (len s_1)),(21,I x4),(40,B u8)] [] 1):=by
    subst h
    exact rf [0,20,21,40] [] (j6 :)
   replace h:=hu8
   clear hu8
   refine sp 33 h rfl (fun h=>?_) fun h=>?_
   ·refine cq 3 [36] [B (decide ((c5.toNat:Int)<48))] 273 ?_
    obtain⟨u9,hu9,h⟩:=lJ h
    have j9:Run nR 0 Q (.code Aa::.blk 1::.code Cb::.lp oo::.blk 0::K) (sT 46 [(0,str s_1),(20,I (len s_1)),(21,I x4),(40,B u9)] [] 1):=by
     subst h
     exact rf [0,20,21,40] [] (j8 :)
    replace h:=hu9
    clear hu9
    refine sp 36 h rfl (fun h=>?_) fun h=>?_
    ·refine cq 5 [40] [B true] 337 ?_
     subst h
     exact rf [0,20,21,40] [] (j9 :)
    ·refine cq 5 [40] [B (decide ((c5.toNat:Int)>57))] 337 ?_
     subst h
     exact rf [0,20,21,40] [] (j9 :)
   ·refine cq 8 [40] [B false] 337 ?_
    subst h
    exact rf [0,20,21,40] [] (j8 :)
 ·refine aq 1 ?_
  exact rf [0] [] (hn _ (Option.some.inj h).symm :) (hk:=hK)
theorem SE (s_1:ae)(r:Bool)(h:sP s_1=some r):be nR Tryz.f159 [false] 0 (E7 s_1) (Fx r):=by
 show Run _ _ (ph s_1 r) [.code uN] _
 refine rI 46 [(0,str s_1)] [] 1 ?_
 unfold sP at h
 refine cq 9 [6] [I (len s_1)] 49 ?_
 obtain⟨r2,hr2,h⟩:=bS h
 refine oq 65 (B r2) rfl (cP (iX hr2)) ?_
 refine cq 2 [9] [B (!r2)] 97 ?_
 obtain⟨y3,hy3,hy31,hy32⟩:=bJ h
 have j3:∀u3,y3=.inr u3→Run nR 0 (ph s_1 r) (.code (cR (cL (cR uN)))::.code (cR (cR uN))::[]) (sT 46 [(0,str s_1),(18,B u3)] [] 1):=by
  intro u3 hu
  replace h:=hy32 u3 hu
  refine sq h (fun h=>?_) fun h=>?_
  ·refine cq 4 [2] [B false] 17 ?_
   obtain rfl:=Option.some.inj h
   exact aj rfl (qp [B false])
  ·refine aq 1 ?_
   refine cq 8 [20,21] [I (len s_1),I (0)] 49 ?_
   obtain⟨y10,hy10,hy101,hy102⟩:=bJ h
   refine bG rfl ?_
   refine rf [0,20,21] [] (Ks s_1 rfl 0 _ hy10 (fun r' e st hq=>by rw[hy101 r' e] at hq;exact hq) fun u10 hu=>?_)
   replace h:=hy102 u10 hu
   refine aq 2 ?_
   obtain⟨r11,hr11,h⟩:=bS h
   refine oq 17 (.hs 1 0 [] 1 0 (r11.map str).length) rfl (cP (Ul hr11)) ?_
   refine cq 1 [43] [str s_1] 33 ?_
   obtain⟨r12,hr12,h⟩:=bS h
   refine oq 49 (B r12) rfl (co rfl rfl (cI rfl rfl rfl (b9 (Xe rfl rfl (d6 (f:=str) (g:=str) (xs:=r11) rfl rfl (bU ep))) (b9 (cQ rfl) dD)) (Hk hr12) (.inl rfl) d9 rfl rfl rfl)) ?_
   refine cq 3 [2] [B (!r12)] 81 ?_
   obtain rfl:=Option.some.inj h
   exact aj rfl (qp [B (!r12)])
 have r3:∀r',y3=.inl r'→∀st,ph s_1 r' st→(ph s_1 r) st:=fun r' e st hq=>by rw[hy31 r' e] at hq;exact hq
 replace h:=hy3
 refine sp 9 h rfl (fun h=>?_) fun h=>?_
 ·refine cq 10 [18] [B true] 241 ?_
  exact rf [0,18] [] (j3 _ (Option.some.inj h).symm :)
 ·refine cq 1 [10] [str s_1] 113 ?_
  obtain⟨c13,hc13,h⟩:=bS h
  refine oy 129 (.int .u8 (c13.toNat:Int)) rfl (kR rfl rfl (px rfl rfl hc13)) ?_
  refine cq 3 [14] [B (decide ((c13.toNat:Int)<97))] 177 ?_
  obtain⟨y14,hy14,hy141,hy142⟩:=bL h
  have j14:∀u14,y14=.inr u14→Run nR 0 (ph s_1 r) (.code (cR (cL (cR uN)))::.code (cR (cR uN))::[]) (sT 46 [(0,str s_1),(18,B u14)] [] 1):=by
   intro u14 hu
   replace h:=hy142 u14 hu
   exact rf [0,18] [] (j3 _ (Option.some.inj h).symm :)
  have r14:∀r',y14=.inl r'→∀st,ph s_1 r' st→(ph s_1 r) st:=fun r' e st hq=>r3 r' (hy141 r' e) st hq
  replace h:=hy14
  refine sp 14 h rfl (fun h=>?_) fun h=>?_
  ·refine cq 5 [18] [B true] 241 ?_
   exact rf [0,18] [] (j14 _ (Option.some.inj h).symm :)
  ·refine cq 1 [15] [str s_1] 193 ?_
   obtain⟨c15,hc15,h⟩:=bS h
   refine oy 209 (.int .u8 (c15.toNat:Int)) rfl (kR rfl rfl (px rfl rfl hc15)) ?_
   refine cq 3 [18] [B (decide ((c15.toNat:Int)>122))] 241 ?_
   exact rf [0,18] [] (j14 _ (Option.some.inj h).symm :)
theorem rk {G:Go.Ln.Ground}:aI Tryz.prog G 159 nW:=gT 1 0 (aD jr (aD My (aD uG bg))) (Checked.mixed Tryz.checked) Tryz.func159 (fun a r h=>SE a r h)
def FA:(List ae)→List V:=oA (ew str)
def FF (r:Bool):V×List V:=(B r,[])
noncomputable def DU:Ent:=aR [false] FA FF fun x=>F2 x
theorem WD {list_1:List ae}{r}(h:F2 list_1=some r):DU.F (FA list_1)=some (FF r):=aC (aB (bz bm)) h
noncomputable def zg:Code:=az Tryz.f123
noncomputable def Fj:Env:=bF Tryz.prog [(159,nW),(130,ow),(86,iR)]
def KH (x:(List ae))(r:Bool):St→Prop:=QF Fj Tryz.f123 [false] (FA x) (FF r)
theorem KB (list_1:List ae):cd Fj 0 (KH list_1) (cL (cL (cR (cL (cR zg))))) 0 (tV list_1) (fun u=>(sT 26 [(0,.isl false (list_1.map str))] [] 1)) fun x2=>(sT 26 [(0,.isl false (list_1.map str)),(5,.isl false (list_1.map str)),(6,I (len list_1)),(7,I x2)] [] 1):=dT (yW list_1) fun {Q K} hK self ih x2 y h hr hn=>by
 unfold kE at h
 refine cq 5 [8] [B (decide (x2<(len list_1)))] 17 ?_
 refine sq h (fun h=>?_) fun h=>?_
 ·refine aq 1 ?_
  refine cq 5 [9] [I x2] 33 ?_
  obtain⟨e3,he3,h⟩:=bS h
  refine oq 49 (.iptr (str e3) 0) rfl (ap rfl rfl rfl (aQ rfl rfl rfl rfl he3)) ?_
  refine cq 7 [3,4,12] [I x2,str e3,str e3] 113 ?_
  obtain⟨r4,hr4,h⟩:=bS h
  refine oq 129 (B r4) rfl (cP (AU hr4)) ?_
  refine cq 2 [15] [B (!r4)] 161 ?_
  obtain⟨y5,hy5,hy51,hy52⟩:=bL h
  have j5:∀u5,y5=.inr u5→Run Fj 0 Q (.code (cR (cR (cL (cL (cR (cR (cL (cL (cR (cL (cR zg)))))))))))::.blk 1::.code (cR (cR (cR (cL (cL (cR (cL (cR zg))))))))::.lp (cL (cL (cR (cL (cR zg)))))::.blk 0::K) (sT 26 [(0,.isl false (list_1.map str)),(5,.isl false (list_1.map str)),(6,I (len list_1)),(7,I x2),(21,B u5)] [] 1):=by
   intro u5 hu
   replace h:=hy52 u5 hu
   refine sq h (fun h=>?_) fun h=>?_
   ·refine cq 4 [2] [B false] 17 ?_
    exact aj rfl (hr _ (Option.some.inj h).symm _ (qp [B false]))
   ·refine aq 1 ?_
    refine cq 5 [7] [I (ar (x2+1))] 33 ?_
    refine cG ?_
    exact rf [0,5,6,7] [] (ih _ _ h hr hn :)
  have r5:∀r',y5=.inl r'→∀st,KH list_1 r' st→Q st:=fun r' e st hq=>hr r' (hy51 r' e) st hq
  replace h:=hy5
  refine sp 15 h rfl (fun h=>?_) fun h=>?_
  ·refine cq 7 [21] [B true] 257 ?_
   exact rf [0,5,6,7,21] [] (j5 _ (Option.some.inj h).symm :)
  ·refine cq 2 [16,17] [.isl false (list_1.map str),I x2] 193 ?_
   obtain⟨s6,hs6,h⟩:=bS h
   refine oy 209 (.isl false (s6.map str)) rfl (gf rfl rfl rfl rfl (HW rfl rfl (fun y=>(jz y).1) rfl rfl hs6)) ?_
   refine cq 1 [19] [str e3] 225 ?_
   obtain⟨r7,hr7,h⟩:=bS h
   refine oy 241 (B r7) rfl (cP (Hk hr7)) ?_
   refine cq 2 [21] [B r7] 257 ?_
   exact rf [0,5,6,7,21] [] (j5 _ (Option.some.inj h).symm :)
 ·refine aq 1 ?_
  exact rf [0] [] (hn _ (Option.some.inj h).symm :) (hk:=hK)
theorem TP (list_1:List ae)(r:Bool)(h:F2 list_1=some r):be Fj Tryz.f123 [false] 0 (FA list_1) (FF r):=by
 show Run _ _ (KH list_1 r) [.code zg] _
 refine rI 26 [(0,.isl false (list_1.map str))] [] 1 ?_
 unfold F2 at h
 refine cq 8 [5] [.isl false (list_1.map str)] 33 ?_
 refine oq 49 (I (len list_1)) rfl (aX rfl rfl rfl (bc rfl)) ?_
 refine cq 3 [7] [I (0)] 65 ?_
 obtain⟨y8,hy8,hy81,hy82⟩:=bJ h
 refine bG rfl ?_
 refine rf [0,5,6,7] [] (KB list_1 rfl 0 _ hy8 (fun r' e st hq=>by rw[hy81 r' e] at hq;exact hq) fun u8 hu=>?_)
 replace h:=hy82 u8 hu
 refine cq 3 [23] [.isl false (list_1.map str)] 17 ?_
 refine oq 33 (I (len list_1)) rfl (aX rfl rfl rfl (bc rfl)) ?_
 obtain⟨r9,hr9,h⟩:=bS h
 refine oq 49 (B r9) rfl (cP (iX hr9)) ?_
 refine cq 2 [2] [B r9] 65 ?_
 obtain rfl:=Option.some.inj h
 exact aj rfl (qp [B r9])
theorem Qv {G:Go.Ln.Ground}:aI Tryz.prog G 123 DU:=gT 1 0 (aD rk (aD uG (aD jr bg))) (Checked.mixed Tryz.checked) Tryz.func123 (fun a r h=>TP a r h)
def FG:(Clause×ae)→List V:=cA aa (oA (fun x:ae=>.iptr (str x) 0))
def FU (r:Bool):V×List V:=(B r,[])
noncomputable def DR:Ent:=aR [false,false] FG FU fun x=>Mm x.1 x.2
theorem WM {x_1:Clause}{a_2:ae}{r}(h:Mm x_1 a_2=some r):DR.F (FG (x_1,a_2))=some (FU r):=aC (aY cp (aB (oE bm))) h
noncomputable def W1:Code:=az Tryz.f217
noncomputable def Sd:Env:=bF Tryz.prog []
def Wg (x:Clause×ae)(r:Bool):St→Prop:=QF Sd Tryz.f217 [false,false] (FG x) (FU r)
theorem SY (x_1:Clause)(a_2:ae)(r:Bool)(h:Mm x_1 a_2=some r):be Sd Tryz.f217 [false,false] 0 (FG (x_1,a_2)) (FU r):=by
 show Run _ _ (Wg (x_1,a_2) r) [.code W1] _
 refine rI 8 [(0,.agg [str x_1.Id,I x_1.Kind,I x_1.Party,str x_1.Action,I x_1.Other,I x_1.Amount,I x_1.When.Op,str x_1.When.Name,I x_1.When.Day,.isl false (x_1.When.Parts.map ac),I x_1.Within,str x_1.Repair]),(1,.iptr (str a_2) 0)] [] 1 ?_
 unfold Mm at h
 refine cq 13 [3] [B (x_1.Id==a_2)] 113 ?_
 obtain rfl:=Option.some.inj h
 exact aj rfl (qp [B (x_1.Id==a_2)])
theorem QN {G:Go.Ln.Ground}:aI Tryz.prog G 217 DR:=gT 2 0 bg (Checked.mixed Tryz.checked) Tryz.func217 (fun a r h=>SY a.1 a.2 r h)
def CW:((List Clause)×ae)→List V:=cA (ew aa) (oA (fun x:ae=>(.fn 217 [.iptr (str x) 0]:V)))
def zJ (r:Int):V×List V:=(I r,[])
noncomputable def xW:Ent:=aR [false,false] CW zJ fun x=>DV x.1 x.2
theorem U3 {s_1:List Clause}{f_2:ae}{r}(h:DV s_1 f_2=some r):xW.F (CW (s_1,f_2))=some (zJ r):=aC (aY (bz cp) (aB (qa bm))) h
noncomputable def MM:Code:=az Tryz.f160
noncomputable def G7:Env:=bF Tryz.prog [(217,DR)]
def Mp (x:(List Clause)×ae)(r:Int):St→Prop:=QF G7 Tryz.f160 [false,false] (CW x) (zJ r)
theorem Ij (s_1:List Clause)(f_2:ae):cd G7 0 (Mp (s_1,f_2)) (cL (cL (cR (cL (cR MM))))) 0 (re s_1 f_2) (fun u=>(sT 19 [] [] 1)) fun x3=>(sT 19 [(0,.isl false (s_1.map aa)),(1,.fn 217 [.iptr (str f_2) 0]),(7,I (len s_1)),(8,I x3)] [] 1):=dT (vp s_1 f_2) fun {Q K} hK self ih x3 y h hr hn=>by
 unfold lf at h
 refine cq 5 [9] [B (decide (x3<(len s_1)))] 17 ?_
 refine sq h (fun h=>?_) fun h=>?_
 ·refine aq 1 ?_
  refine cq 12 [5,11,12,13] [I x3,.fn 217 [.iptr (str f_2) 0],.isl false (s_1.map aa),I x3] 97 ?_
  obtain⟨e4,he4,h⟩:=bS h
  refine oq 113 (.iptr (.agg [str e4.Id,I e4.Kind,I e4.Party,str e4.Action,I e4.Other,I e4.Amount,I e4.When.Op,str e4.When.Name,I e4.When.Day,.isl false (e4.When.Parts.map ac),I e4.Within,str e4.Repair]) 0) rfl (ap rfl rfl rfl (aQ rfl rfl rfl rfl he4)) ?_
  refine cq 1 [15] [.agg [str e4.Id,I e4.Kind,I e4.Party,str e4.Action,I e4.Other,I e4.Amount,I e4.When.Op,str e4.When.Name,I e4.When.Day,.isl false (e4.When.Parts.map ac),I e4.Within,str e4.Repair]] 129 ?_
  obtain⟨r5,hr5,h⟩:=bS h
  refine oq 145 (B r5) rfl (cP (WM hr5)) ?_
  refine aq 1 ?_
  refine sq h (fun h=>?_) fun h=>?_
  ·refine cq 5 [4] [I x3] 177 ?_
   exact aj rfl (hr _ (Option.some.inj h).symm _ (qp [I x3]))
  ·refine aq 1 ?_
   refine cq 5 [8] [I (ar (x3+1))] 177 ?_
   refine cG ?_
   exact rf [0,1,7,8] [] (ih _ _ h hr hn :)
 ·refine aq 1 ?_
  exact rf [] [] (hn _ (Option.some.inj h).symm :) (hk:=hK)
theorem Qk (s_1:List Clause)(f_2:ae)(r:Int)(h:DV s_1 f_2=some r):be G7 Tryz.f160 [false,false] 0 (CW (s_1,f_2)) (zJ r):=by
 show Run _ _ (Mp (s_1,f_2) r) [.code MM] _
 refine rI 19 [(0,.isl false (s_1.map aa)),(1,.fn 217 [.iptr (str f_2) 0])] [] 1 ?_
 unfold DV at h
 refine cq 8 [6] [.isl false (s_1.map aa)] 33 ?_
 refine oq 49 (I (len s_1)) rfl (aX rfl rfl rfl (bc rfl)) ?_
 refine cq 3 [8] [I (0)] 65 ?_
 obtain⟨y6,hy6,hy61,hy62⟩:=bJ h
 refine bG rfl ?_
 refine rf [0,1,7,8] [] (Ij s_1 f_2 rfl 0 _ hy6 (fun r' e st hq=>by rw[hy61 r' e] at hq;exact hq) fun u6 hu=>?_)
 replace h:=hy62 u6 hu
 refine cq 4 [4] [I (-1)] 17 ?_
 obtain rfl:=Option.some.inj h
 exact aj rfl (qp [I (-1)])
theorem LM {G:Go.Ln.Ground}:aI Tryz.prog G 160 xW:=gT 2 0 (aD QN bg) (Checked.mixed Tryz.checked) Tryz.func160 (fun a r h=>Qk a.1 a.2 r h)
def Fz:(Contract×ae)→List V:=cA aG (oA str)
def FO (r:Int):V×List V:=(I r,[])
noncomputable def Dk:Ent:=aR [false,false] Fz FO fun x=>CV x.1 x.2
theorem Su {c_1:Contract}{id_2:ae}{r}(h:CV c_1 id_2=some r):Dk.F (Fz (c_1,id_2))=some (FO r):=aC (aY aV (aB bm)) h
noncomputable def WF:Code:=az Tryz.f184
noncomputable def Sh:Env:=bF Tryz.prog [(160,xW)]
def Wn (x:Contract×ae)(r:Int):St→Prop:=QF Sh Tryz.f184 [false,false] (Fz x) (FO r)
theorem T4 (c_1:Contract)(id_2:ae)(r:Int)(h:CV c_1 id_2=some r):be Sh Tryz.f184 [false,false] 0 (Fz (c_1,id_2)) (FO r):=by
 show Run _ _ (Wn (c_1,id_2) r) [.code WF] _
 refine rI 9 [(0,.agg [.isl false (c_1.Parties.map str),.isl false (c_1.Clauses.map aa)]),(1,str id_2)] [] 1 ?_
 unfold CV at h
 refine ck 11 [6,7] [] [17] [] [.isl false (c_1.Clauses.map aa),.fn 217 [.hp 17 0 [] 1 0 0]] [some ⟨0,1,[str id_2]⟩] 97 (by kernel_rfl) ?_
 obtain⟨r3,hr3,h⟩:=bS h
 refine oq 113 (I r3) rfl (co rfl rfl (cI rfl rfl rfl (b9 (cQ rfl) (b9 (HP (dh (sS (path:=[]) rfl rfl aZ rfl rfl) kg)) dD)) (U3 hr3) (.inl rfl) d9 rfl rfl rfl)) ?_
 refine cq 2 [4] [I r3] 129 ?_
 obtain rfl:=Option.some.inj h
 exact aj rfl (qp [I r3])
theorem Py {G:Go.Ln.Ground}:aI Tryz.prog G 184 Dk:=gT 2 0 (aD LM bg) (Checked.mixed Tryz.checked) Tryz.func184 (fun a r h=>T4 a.1 a.2 r h)
def E0:Int→List V:=oA I
def FV (r:Bool):V×List V:=(B r,[])
noncomputable def qk:Ent:=aR [false] E0 FV fun x=>md x
theorem sh {day_1:Int}{r}(h:md day_1=some r):qk.F (E0 day_1)=some (FV r):=aC (aB bO) h
noncomputable def W7:Code:=az Tryz.f126
noncomputable def Sa:Env:=bF Tryz.prog [(86,iR)]
def WK (x:Int)(r:Bool):St→Prop:=QF Sa Tryz.f126 [false] (E0 x) (FV r)
theorem SQ (day_1:Int)(r:Bool)(h:md day_1=some r):be Sa Tryz.f126 [false] 0 (E0 day_1) (FV r):=by
 show Run _ _ (WK day_1 r) [.code W7] _
 refine rI 5 [(0,I day_1)] [] 1 ?_
 unfold md at h
 refine cq 7 [3] [I day_1] 33 ?_
 obtain⟨r2,hr2,h⟩:=bS h
 refine oq 49 (B r2) rfl (cP (iX hr2)) ?_
 refine cq 2 [2] [B r2] 65 ?_
 obtain rfl:=Option.some.inj h
 exact aj rfl (qp [B r2])
theorem wI {G:Go.Ln.Ground}:aI Tryz.prog G 126 qk:=gT 1 0 (aD jr bg) (Checked.mixed Tryz.checked) Tryz.func126 (fun a r h=>SQ a r h)
def AB:(Condition×Int)→List V:=cA aP (oA I)
def BT (r:Int):V×List V:=(I r,[])
noncomputable def xG (slf_Ffi:(Condition×Int)→Option Int):Ent:=aR [false,false] AB BT slf_Ffi
theorem M7 (slf_Ffi:(Condition×Int)→Option Int){x}{r}(h:slf_Ffi x=some r):(xG slf_Ffi).F (AB x)=some (BT r):=aC (aY cf (aB bO)) h
noncomputable def Dx:Ent:=xG (aJ kn)
theorem Wp {c_1:Condition}{so_2:Int}{r}(h:Oh c_1 so_2=some r):Dx.F (AB (c_1,so_2))=some (BT r):=M7 (aJ kn) h
noncomputable def rT:Code:=az Tryz.f218
noncomputable abbrev nf:Code:=cR (cR (cR (cR (cR rT))))
noncomputable abbrev oG:Code:=cR (cL (cR (cR (cR (cR rT)))))
noncomputable def kj (slf_Ffi:(Condition×Int)→Option Int):Env:=bF Tryz.prog [(218,(xG slf_Ffi)),(159,nW),(126,qk),(86,iR)]
def dR (slf_Ffi:(Condition×Int)→Option Int)(x:Condition×Int)(r:Int):St→Prop:=QF (kj slf_Ffi) Tryz.f218 [false,false] (AB x) (BT r)
theorem Kp (slf_Ffi:(Condition×Int)→Option Int)(c_1:Condition)(so_2:Int):cd (kj slf_Ffi) 0 (dR slf_Ffi (c_1,so_2)) (cL (cL (cR (cL nf)))) 0 (ke slf_Ffi c_1 so_2) (fun u=>(sT 78 [(1,I u)] [] 1)) fun x5=>(sT 78 [(1,I x5.1),(65,.isl false (c_1.Parts.map ac)),(66,I (len c_1.Parts)),(67,I x5.2)] [] 1):=dT (zK slf_Ffi c_1 so_2) fun {Q K} hK self ih x5 y h hr hn=>by
 unfold jg at h
 refine cq 5 [68] [B (decide (x5.2<(len c_1.Parts)))] 17 ?_
 refine sq h (fun h=>?_) fun h=>?_
 ·refine aq 1 ?_
  refine aq 4 ?_
  obtain⟨e6,he6,h⟩:=bS h
  refine oq 33 (.iptr (.agg [I e6.Op,str e6.Name,I e6.Day,.isl false (e6.Parts.map ac)]) 0) rfl (ap rfl rfl rfl (aQ rfl rfl (ce e6) rfl he6)) ?_
  refine ck 2 [7,70] [] [49] [] [.hp 49 0 [] 4 0 0,.agg [I e6.Op,str e6.Name,I e6.Day,.isl false (e6.Parts.map ac)]] [some ⟨0,4,[.agg [I (0),str ([]),I (0),.isl true []]]⟩] 65 (by kernel_rfl) ?_
  refine d8 49 [.agg [I (0),str ([]),I (0),.usl 4 (([]).map ao)]] rfl rfl (au (fi (au (.refl _) (au (.refl _) (au (.refl _) (au (.nil _) dA))))) dA) ?_
  refine ck 6 [71,72] [] [49] [] [.agg [I e6.Op,str e6.Name,I e6.Day,.isl false (e6.Parts.map ac)],I x5.1] [some ⟨2,4,[.agg [I e6.Op,str e6.Name,I e6.Day,.isl false (e6.Parts.map ac)]]⟩] 113 (by kernel_rfl) ?_
  obtain⟨r7,hr7,h⟩:=bS h
  refine oq 129 (I r7) rfl (co rfl rfl (cI rfl rfl rfl (b9 (cQ rfl) (b9 (cQ rfl) dD)) (M7 slf_Ffi hr7) (.inr rfl) d9 rfl rfl rfl)) ?_
  refine cq 7 [1,75] [I r7,B (decide (r7<0))] 177 ?_
  refine sq h (fun h=>?_) fun h=>?_
  ·refine cq 4 [4] [I (-1)] 193 ?_
   exact aj rfl (hr _ (Option.some.inj h).symm _ (qp [I (-1)]))
  ·refine aq 1 ?_
   refine cq 5 [67] [I (ar (x5.2+1))] 209 ?_
   refine cG ?_
   exact rf [1,65,66,67] [] (ih _ _ h hr hn :)
 ·refine aq 1 ?_
  exact rf [1] [] (hn _ (Option.some.inj h).symm :) (hk:=hK)
theorem Tl (slf_Ffi:(Condition×Int)→Option Int)(c_1:Condition)(so_2:Int)(r:Int)(h:uX slf_Ffi c_1 so_2=some r):be (kj slf_Ffi) Tryz.f218 [false,false] 0 (AB (c_1,so_2)) (BT r):=by
 show Run _ _ (dR slf_Ffi (c_1,so_2) r) [.code rT] _
 refine rI 78 [(0,.agg [I c_1.Op,str c_1.Name,I c_1.Day,.isl false (c_1.Parts.map ac)]),(1,I so_2)] [] 1 ?_
 unfold uX at h
 refine ck 13 [1,2] [] [1] [] [I (ar (so_2+1)),.hp 1 0 [] 4 0 0] [some ⟨0,4,[.agg [I c_1.Op,str c_1.Name,I c_1.Day,.isl false (c_1.Parts.map ac)]]⟩] 81 (by kernel_rfl) ?_
 refine oq 97 (.hs 81 0 [] 1 0 7) rfl (f9 rfl (su (f:=I) (xs:=[]) (z:=I (0)) (es:=[I (-1),I (0),I (0),I (0),I (1),I (2),I (2)]) (ws:=[I (-1),I (0),I (0),I (0),I (1),I (2),I (2)]) rfl rfl rfl (by decide) rfl (em rfl) rfl)) ?_
 refine cq 4 [5] [.hs 81 0 [] 1 0 7] 113 ?_
 refine d7 [0,1,3,7,15,31,63,127,255,511,1023,2047,511,511,8703,29183,61951,131071,262143] rfl (by decide +kernel) ?_
 refine dk 3 [13,12,11] [B (decide ((ar (so_2+1))>15)),B (decide ((ar (so_2+1))>15)),I (ar (so_2+1))] ?_
 obtain⟨y3,hy3,hy31,hy32⟩:=bJ h
 have j3:∀u3,y3=.inr u3→Run (kj slf_Ffi) 0 (dR slf_Ffi (c_1,so_2) r) (.code (cR (cL (cR (cR (cR rT)))))::.code (cR (cR (cR (cR rT))))::[]) (sT 78 [(1,I (ar (so_2+1))),(2,.hp 1 0 [] 4 0 0),(29,B u3)] [⟨0,4,[.agg [I c_1.Op,str c_1.Name,I c_1.Day,.isl false (c_1.Parts.map ac)]]⟩] 2):=by
  intro u3 hu
  replace h:=hy32 u3 hu
  refine sq h (fun h=>?_) fun h=>?_
  ·refine cq 4 [4] [I (-1)] 18 ?_
   obtain rfl:=Option.some.inj h
   exact aj rfl (qp [I (-1)])
  ·refine aq 1 ?_
   refine cq 11 [37] [B (!((c_1.Op==2)==(!(c_1.Name==([]:ae)))))] 130 ?_
   obtain⟨y4,hy4,hy41,hy42⟩:=bJ h
   have j4:∀u4,y4=.inr u4→Run (kj slf_Ffi) 0 (dR slf_Ffi (c_1,so_2) r) (.code oG::.code nf::[]) (sT 78 [(1,I (ar (so_2+1))),(2,.hp 1 0 [] 4 0 0),(63,B u4)] [⟨0,4,[.agg [I c_1.Op,str c_1.Name,I c_1.Day,.isl false (c_1.Parts.map ac)]]⟩] 2):=by
    intro u4 hu
    replace h:=hy42 u4 hu
    refine sq h (fun h=>?_) fun h=>?_
    ·refine cq 4 [4] [I (-1)] 18 ?_
     obtain rfl:=Option.some.inj h
     exact aj rfl (qp [I (-1)])
    ·refine aq 1 ?_
     refine cq 5 [65] [.isl false (c_1.Parts.map ac)] 34 ?_
     refine oq 50 (I (len c_1.Parts)) rfl (aX rfl rfl rfl (bc rfl)) ?_
     refine cq 3 [67] [I (0)] 66 ?_
     obtain⟨y8,hy8,hy81,hy82⟩:=bJ h
     refine bG rfl ?_
     refine rf [1,65,66,67] [] (Kp slf_Ffi c_1 so_2 rfl ((ar (so_2+1)),0) _ hy8 (fun r' e st hq=>by rw[hy81 r' e] at hq;exact hq) fun u8 hu=>?_)
     replace h:=hy82 u8 hu
     refine cq 5 [4] [I u8] 33 ?_
     obtain rfl:=Option.some.inj h
     exact aj rfl (qp [I u8])
   have r4:∀r',y4=.inl r'→∀st,dR slf_Ffi (c_1,so_2) r' st→(dR slf_Ffi (c_1,so_2) r) st:=fun r' e st hq=>by rw[hy41 r' e] at hq;exact hq
   replace h:=hy4
   refine sp 37 h rfl (fun h=>?_) fun h=>?_
   ·refine cq 27 [63] [B true] 546 ?_
    exact rf [1,2,63] [1] (j4 _ (Option.some.inj h).symm :)
   ·refine cq 4 [41] [B (c_1.Op==2)] 194 ?_
    obtain⟨y9,hy9,hy91,hy92⟩:=bL h
    have j9:∀u9,y9=.inr u9→Run (kj slf_Ffi) 0 (dR slf_Ffi (c_1,so_2) r) (.code oG::.code nf::[]) (sT 78 [(1,I (ar (so_2+1))),(2,.hp 1 0 [] 4 0 0),(63,B u9)] [⟨0,4,[.agg [I c_1.Op,str c_1.Name,I c_1.Day,.isl false (c_1.Parts.map ac)]]⟩] 2):=by
     intro u9 hu
     replace h:=hy92 u9 hu
     exact rf [1,2,63] [1] (j4 _ (Option.some.inj h).symm :)
    have r9:∀r',y9=.inl r'→∀st,dR slf_Ffi (c_1,so_2) r' st→(dR slf_Ffi (c_1,so_2) r) st:=fun r' e st hq=>r4 r' (hy91 r' e) st hq
    replace h:=hy9
    refine sp 41 h rfl (fun h=>?_) fun h=>?_
    ·refine cq 2 [43] [str c_1.Name] 226 ?_
     obtain⟨r10,hr10,h⟩:=bS h
     refine oy 242 (B r10) rfl (cP (AU hr10)) ?_
     refine cq 4 [48] [B (!r10)] 306 ?_
     obtain⟨y11,hy11,hy111,hy112⟩:=bL h
     have j11:∀u11,y11=.inr u11→Run (kj slf_Ffi) 0 (dR slf_Ffi (c_1,so_2) r) (.code oG::.code nf::[]) (sT 78 [(1,I (ar (so_2+1))),(2,.hp 1 0 [] 4 0 0),(63,B u11)] [⟨0,4,[.agg [I c_1.Op,str c_1.Name,I c_1.Day,.isl false (c_1.Parts.map ac)]]⟩] 2):=by
      intro u11 hu
      replace h:=hy112 u11 hu
      exact rf [1,2,63] [1] (j9 _ (Option.some.inj h).symm :)
     have r11:∀r',y11=.inl r'→∀st,dR slf_Ffi (c_1,so_2) r' st→(dR slf_Ffi (c_1,so_2) r) st:=fun r' e st hq=>r9 r' (hy111 r' e) st hq
     replace h:=hy11
     refine sp 48 h rfl (fun h=>?_) fun h=>?_
     ·refine cq 16 [63] [B true] 546 ?_
      exact rf [1,2,63] [1] (j11 _ (Option.some.inj h).symm :)
     ·refine cq 4 [52] [B (c_1.Op != 3)] 370 ?_
      obtain⟨y12,hy12,hy121,hy122⟩:=bL h
      have j12:∀u12,y12=.inr u12→Run (kj slf_Ffi) 0 (dR slf_Ffi (c_1,so_2) r) (.code oG::.code nf::[]) (sT 78 [(1,I (ar (so_2+1))),(2,.hp 1 0 [] 4 0 0),(63,B u12)] [⟨0,4,[.agg [I c_1.Op,str c_1.Name,I c_1.Day,.isl false (c_1.Parts.map ac)]]⟩] 2):=by
       intro u12 hu
       replace h:=hy122 u12 hu
       exact rf [1,2,63] [1] (j11 _ (Option.some.inj h).symm :)
      have r12:∀r',y12=.inl r'→∀st,dR slf_Ffi (c_1,so_2) r' st→(dR slf_Ffi (c_1,so_2) r) st:=fun r' e st hq=>r11 r' (hy121 r' e) st hq
      replace h:=hy12
      refine sp 52 h rfl (fun h=>?_) fun h=>?_
      ·refine cq 6 [58] [B (c_1.Day != 0)] 466 ?_
       obtain⟨y13,hy13,hy131,hy132⟩:=bL h
       have j13:∀u13,y13=.inr u13→Run (kj slf_Ffi) 0 (dR slf_Ffi (c_1,so_2) r) (.code oG::.code nf::[]) (sT 78 [(1,I (ar (so_2+1))),(2,.hp 1 0 [] 4 0 0),(63,B u13)] [⟨0,4,[.agg [I c_1.Op,str c_1.Name,I c_1.Day,.isl false (c_1.Parts.map ac)]]⟩] 2):=by
        intro u13 hu
        replace h:=hy132 u13 hu
        exact rf [1,2,63] [1] (j12 _ (Option.some.inj h).symm :)
       have r13:∀r',y13=.inl r'→∀st,dR slf_Ffi (c_1,so_2) r' st→(dR slf_Ffi (c_1,so_2) r) st:=fun r' e st hq=>r12 r' (hy131 r' e) st hq
       replace h:=hy13
       refine sp 58 h rfl (fun h=>?_) fun h=>?_
       ·refine cq 6 [63] [B true] 546 ?_
        exact rf [1,2,63] [1] (j13 _ (Option.some.inj h).symm :)
       ·refine cq 2 [60] [I c_1.Day] 498 ?_
        obtain⟨r14,hr14,h⟩:=bS h
        refine oy 514 (B r14) rfl (cP (sh hr14)) ?_
        refine cq 3 [63] [B (!r14)] 546 ?_
        exact rf [1,2,63] [1] (j13 _ (Option.some.inj h).symm :)
      ·refine cq 8 [58,60] [B false,I c_1.Day] 498 ?_
       obtain⟨r15,hr15,h⟩:=bS h
       refine oy 514 (B r15) rfl (cP (sh hr15)) ?_
       refine cq 3 [63] [B (!r15)] 546 ?_
       exact rf [1,2,63] [1] (j12 _ (Option.some.inj h).symm :)
    ·refine cq 11 [48,52] [B false,B (c_1.Op != 3)] 370 ?_
     obtain⟨y16,hy16,hy161,hy162⟩:=bL h
     have j16:∀u16,y16=.inr u16→Run (kj slf_Ffi) 0 (dR slf_Ffi (c_1,so_2) r) (.code oG::.code nf::[]) (sT 78 [(1,I (ar (so_2+1))),(2,.hp 1 0 [] 4 0 0),(63,B u16)] [⟨0,4,[.agg [I c_1.Op,str c_1.Name,I c_1.Day,.isl false (c_1.Parts.map ac)]]⟩] 2):=by
      intro u16 hu
      replace h:=hy162 u16 hu
      exact rf [1,2,63] [1] (j9 _ (Option.some.inj h).symm :)
     have r16:∀r',y16=.inl r'→∀st,dR slf_Ffi (c_1,so_2) r' st→(dR slf_Ffi (c_1,so_2) r) st:=fun r' e st hq=>r9 r' (hy161 r' e) st hq
     replace h:=hy16
     refine sp 52 h rfl (fun h=>?_) fun h=>?_
     ·refine cq 6 [58] [B (c_1.Day != 0)] 466 ?_
      obtain⟨y17,hy17,hy171,hy172⟩:=bL h
      have j17:∀u17,y17=.inr u17→Run (kj slf_Ffi) 0 (dR slf_Ffi (c_1,so_2) r) (.code oG::.code nf::[]) (sT 78 [(1,I (ar (so_2+1))),(2,.hp 1 0 [] 4 0 0),(63,B u17)] [⟨0,4,[.agg [I c_1.Op,str c_1.Name,I c_1.Day,.isl false (c_1.Parts.map ac)]]⟩] 2):=by
       intro u17 hu
       replace h:=hy172 u17 hu
       exact rf [1,2,63] [1] (j16 _ (Option.some.inj h).symm :)
      have r17:∀r',y17=.inl r'→∀st,dR slf_Ffi (c_1,so_2) r' st→(dR slf_Ffi (c_1,so_2) r) st:=fun r' e st hq=>r16 r' (hy171 r' e) st hq
      replace h:=hy17
      refine sp 58 h rfl (fun h=>?_) fun h=>?_
      ·refine cq 6 [63] [B true] 546 ?_
       exact rf [1,2,63] [1] (j17 _ (Option.some.inj h).symm :)
      ·refine cq 2 [60] [I c_1.Day] 498 ?_
       obtain⟨r18,hr18,h⟩:=bS h
       refine oy 514 (B r18) rfl (cP (sh hr18)) ?_
       refine cq 3 [63] [B (!r18)] 546 ?_
       exact rf [1,2,63] [1] (j17 _ (Option.some.inj h).symm :)
     ·refine cq 8 [58,60] [B false,I c_1.Day] 498 ?_
      obtain⟨r19,hr19,h⟩:=bS h
      refine oy 514 (B r19) rfl (cP (sh hr19)) ?_
      refine cq 3 [63] [B (!r19)] 546 ?_
      exact rf [1,2,63] [1] (j16 _ (Option.some.inj h).symm :)
 have r3:∀r',y3=.inl r'→∀st,dR slf_Ffi (c_1,so_2) r' st→(dR slf_Ffi (c_1,so_2) r) st:=fun r' e st hq=>by rw[hy31 r' e] at hq;exact hq
 replace h:=hy3
 refine sp 13 h rfl (fun h=>?_) fun h=>?_
 ·refine dk 16 [29,28,27,26,25,24,23,22,21,20,19,18,17,16,15,14] [B true,.und,.und,.und,.und,.und,.und,.und,.und,.und,B true,B true,.und,.und,.und,.und] ?_
  refine de 417 rfl rfl ?_
  exact rf [1,2,29] [1] (j3 _ (Option.some.inj h).symm :)
 ·refine dy [1] [] (.hp 1 0 [] 4 0 0) rfl (al rfl rfl rfl) ?_
  refine dy [1] [] (I c_1.Op) rfl (aM rfl rfl) ?_
  obtain⟨r20,hr20,h⟩:=bS h
  refine dy [] [] (B r20) rfl (cP (iX hr20)) ?_ (dj rfl rfl rfl rfl (b9 (cQ rfl) (b9 (cQ rfl) (b9 (cQ rfl) dD))) (iX hr20) (.inr rfl) rfl)
  refine dk 3 [19,18,17] [B (!r20),B (!r20),B (!r20)] ?_
  obtain⟨y21,hy21,hy211,hy212⟩:=bL h
  have j21:∀u21,y21=.inr u21→Run (kj slf_Ffi) 0 (dR slf_Ffi (c_1,so_2) r) (.code (cR (cL (cR (cR (cR rT)))))::.code (cR (cR (cR (cR rT))))::[]) (sT 78 [(1,I (ar (so_2+1))),(2,.hp 1 0 [] 4 0 0),(29,B u21)] [⟨0,4,[.agg [I c_1.Op,str c_1.Name,I c_1.Day,.isl false (c_1.Parts.map ac)]]⟩] 2):=by
   intro u21 hu
   replace h:=hy212 u21 hu
   exact rf [1,2,29] [1] (j3 _ (Option.some.inj h).symm :)
  have r21:∀r',y21=.inl r'→∀st,dR slf_Ffi (c_1,so_2) r' st→(dR slf_Ffi (c_1,so_2) r) st:=fun r' e st hq=>r3 r' (hy211 r' e) st hq
  replace h:=hy21
  refine sp 19 h rfl (fun h=>?_) fun h=>?_
  ·refine dk 10 [29,28,27,26,25,24,23,22,21,20] [B true,.und,.und,.und,.und,.und,.und,.und,.und,.und] ?_
   refine de 417 rfl rfl ?_
   exact rf [1,2,29] [1] (j21 _ (Option.some.inj h).symm :)
  ·refine dy [1] [] (.hp 1 0 [] 4 0 3) rfl (al rfl rfl rfl) ?_
   refine dy [1] [] (.isl false (c_1.Parts.map ac)) rfl (aM rfl rfl) ?_
   refine dy [] [] (I (len c_1.Parts)) rfl (aX rfl rfl rfl (bc rfl)) ?_
   refine dk 1 [23] [.hs 81 0 [] 1 0 7] ?_
   refine dy [1] [] (.hp 1 0 [] 4 0 0) rfl (al rfl rfl rfl) ?_
   refine dy [1] [] (I c_1.Op) rfl (aM rfl rfl) ?_
   obtain⟨e22,he22,h⟩:=bS h
   refine dy [81] [] (.hp 81 0 [] 1 (0+Int.toNat c_1.Op) 0) rfl (ap rfl rfl rfl (gO (f:=I) (xs:=[(-1),0,0,0,1,2,2]) rfl rfl rfl he22)) ?_
   refine dy [81] [] (I e22) rfl (aM rfl (pk (path:=[]) rfl rfl rfl aZ (fO (f:=I) (xs:=[(-1),0,0,0,1,2,2]) he22) rfl rfl rfl)) ?_
   refine dk 2 [29,28] [B ((len c_1.Parts) != e22),B ((len c_1.Parts) != e22)] ?_
   refine de 417 rfl rfl ?_
   exact rf [1,2,29] [1] (j21 _ (Option.some.inj h).symm :)
theorem RF {G:Go.Ln.Ground}:aI Tryz.prog G 218 Dx:=jx fun slf_Ffi g_Ffi=>gT 2 0 (aD g_Ffi (aD rk (aD wI (aD jr bg)))) (Checked.mixed Tryz.checked) Tryz.func218 (fun a r h=>Tl slf_Ffi a.1 a.2 r h)
def Fr:Condition→List V:=oA aP
def FW (r:Bool):V×List V:=(B r,[])
noncomputable def Dq:Ent:=aR [false] Fr FW fun x=>F6 x
theorem WW {c_1:Condition}{r}(h:F6 c_1=some r):Dq.F (Fr c_1)=some (FW r):=aC (aB cf) h
noncomputable def WR:Code:=az Tryz.f185
noncomputable def R9:Env:=bF Tryz.prog [(218,Dx)]
def WE (x:Condition)(r:Bool):St→Prop:=QF R9 Tryz.f185 [false] (Fr x) (FW r)
theorem Tr (c_1:Condition)(r:Bool)(h:F6 c_1=some r):be R9 Tryz.f185 [false] 0 (Fr c_1) (FW r):=by
 show Run _ _ (WE c_1 r) [.code WR] _
 refine rI 6 [(0,.agg [I c_1.Op,str c_1.Name,I c_1.Day,.isl false (c_1.Parts.map ac)])] [] 1 ?_
 unfold F6 at h
 refine cq 8 [3] [.agg [I c_1.Op,str c_1.Name,I c_1.Day,.isl false (c_1.Parts.map ac)]] 49 ?_
 obtain⟨r2,hr2,h⟩:=bS h
 refine oq 65 (I r2) rfl (cP (Wp hr2)) ?_
 refine cq 3 [2] [B (decide (r2>0))] 97 ?_
 obtain rfl:=Option.some.inj h
 exact aj rfl (qp [B (decide (r2>0))])
theorem PG {G:Go.Ln.Ground}:aI Tryz.prog G 185 Dq:=gT 1 0 (aD RF bg) (Checked.mixed Tryz.checked) Tryz.func185 (fun a r h=>Tr a r h)
def Fs:(Contract×Int)→List V:=cA aG (oA I)
def FQ (r:Bool):V×List V:=(B r,[])
noncomputable def DC:Ent:=aR [false,false] Fs FQ fun x=>HG x.1 x.2
theorem WJ {c_1:Contract}{i_2:Int}{r}(h:HG c_1 i_2=some r):DC.F (Fs (c_1,i_2))=some (FQ r):=aC (aY aV (aB bO)) h
noncomputable def jN:Code:=az Tryz.f124
noncomputable abbrev GU:Code:=cR (cL (cR (cR (cR (cR jN)))))
noncomputable abbrev uc:Code:=cR (cR (cR (cR (cR (cR jN)))))
noncomputable abbrev Aj:Code:=cR (cL (cR (cR (cR (cR (cR jN))))))
noncomputable abbrev Gy:Code:=cR (cR (cR uc))
noncomputable def ij:Env:=bF Tryz.prog [(159,nW),(86,iR),(184,Dk),(185,Dq)]
def dt (x:Contract×Int)(r:Bool):St→Prop:=QF ij Tryz.f124 [false,false] (Fs x) (FQ r)
theorem S6 (c_1:Contract)(i_2:Int)(r:Bool)(h:HG c_1 i_2=some r):be ij Tryz.f124 [false,false] 0 (Fs (c_1,i_2)) (FQ r):=by
 show Run _ _ (dt (c_1,i_2) r) [.code jN] _
 refine rI 119 [(0,.agg [.isl false (c_1.Parties.map str),.isl false (c_1.Clauses.map aa)]),(1,I i_2)] [] 1 ?_
 unfold HG at h
 refine ck 10 [2,9,10] [] [1] [] [.hp 1 0 [] 2 0 0,.isl false (c_1.Clauses.map aa),I i_2] [some ⟨0,2,[.agg [.isl false (c_1.Parties.map str),.isl false (c_1.Clauses.map aa)]]⟩] 81 (by kernel_rfl) ?_
 obtain⟨e3,he3,h⟩:=bS h
 refine oq 97 (.iptr (.agg [str e3.Id,I e3.Kind,I e3.Party,str e3.Action,I e3.Other,I e3.Amount,I e3.When.Op,str e3.When.Name,I e3.When.Day,.isl false (e3.When.Parts.map ac),I e3.Within,str e3.Repair]) 0) rfl (ap rfl rfl rfl (aQ rfl rfl rfl rfl he3)) ?_
 refine ck 2 [5,12] [] [113] [] [.hp 113 0 [] 12 0 0,.agg [str e3.Id,I e3.Kind,I e3.Party,str e3.Action,I e3.Other,I e3.Amount,I e3.When.Op,str e3.When.Name,I e3.When.Day,.isl false (e3.When.Parts.map ac),I e3.Within,str e3.Repair]] [some ⟨0,12,[.agg [str ([]),I (0),I (0),str ([]),I (0),I (0),I (0),str ([]),I (0),.isl true [],I (0),str ([])]]⟩] 129 (by kernel_rfl) ?_
 refine d8 113 [.agg [str ([]),I (0),I (0),str ([]),I (0),I (0),I (0),str ([]),I (0),.usl 4 (([]).map ao),I (0),str ([])]] rfl rfl (au (fi (au (.refl _) (au (.refl _) (au (.refl _) (au (.refl _) (au (.refl _) (au (.refl _) (au (.refl _) (au (.refl _) (au (.refl _) (au (.nil _) (au (.refl _) (au (.refl _) dA))))))))))))) dA) ?_
 refine ck 6 [14] [] [113] [] [.isl false (c_1.Parties.map str)] [some ⟨2,12,[.agg [str e3.Id,I e3.Kind,I e3.Party,str e3.Action,I e3.Other,I e3.Amount,I e3.When.Op,str e3.When.Name,I e3.When.Day,.isl false (e3.When.Parts.map ac),I e3.Within,str e3.Repair]]⟩] 177 (by kernel_rfl) ?_
 refine oq 193 (I (len c_1.Parties)) rfl (aX rfl rfl rfl (bc rfl)) ?_
 refine cq 8 [6,18] [I (ar ((len c_1.Parties) - 1)),str e3.Id] 257 ?_
 obtain⟨r4,hr4,h⟩:=bS h
 refine oq 273 (B r4) rfl (cP (AU hr4)) ?_
 refine cq 2 [21] [B (!r4)] 305 ?_
 obtain⟨y5,hy5,hy51,hy52⟩:=bJ h
 have j5:∀u5,y5=.inr u5→Run ij 0 (dt (c_1,i_2) r) (.code (cR (cL (cR (cR (cR jN)))))::.code (cR (cR (cR (cR jN))))::[]) (sT 119 [(1,I i_2),(2,.hp 1 0 [] 2 0 0),(5,.hp 2 0 [] 12 0 0),(6,I (ar ((len c_1.Parties) - 1))),(40,B u5)] [⟨0,2,[.agg [.isl false (c_1.Parties.map str),.isl false (c_1.Clauses.map aa)]]⟩,⟨0,12,[.agg [str e3.Id,I e3.Kind,I e3.Party,str e3.Action,I e3.Other,I e3.Amount,I e3.When.Op,str e3.When.Name,I e3.When.Day,.isl false (e3.When.Parts.map ac),I e3.Within,str e3.Repair]]⟩] 3):=by
  intro u5 hu
  replace h:=hy52 u5 hu
  refine sq h (fun h=>?_) fun h=>?_
  ·refine cq 4 [4] [B false] 19 ?_
   obtain rfl:=Option.some.inj h
   exact aj rfl (qp [B false])
  ·refine aq 1 ?_
   refine cq 6 [42,43] [I e3.Party,I (ar ((len c_1.Parties) - 1))] 51 ?_
   obtain⟨r6,hr6,h⟩:=bS h
   refine oq 67 (B r6) rfl (cP (iX hr6)) ?_
   refine cq 2 [46] [B (!r6)] 99 ?_
   obtain⟨y7,hy7,hy71,hy72⟩:=bJ h
   have j7:∀u7,y7=.inr u7→Run ij 0 (dt (c_1,i_2) r) (.code GU::.code (cR (cR (cR (cR (cR jN)))))::[]) (sT 119 [(1,I i_2),(2,.hp 1 0 [] 2 0 0),(5,.hp 2 0 [] 12 0 0),(65,B u7)] [⟨0,2,[.agg [.isl false (c_1.Parties.map str),.isl false (c_1.Clauses.map aa)]]⟩,⟨0,12,[.agg [str e3.Id,I e3.Kind,I e3.Party,str e3.Action,I e3.Other,I e3.Amount,I e3.When.Op,str e3.When.Name,I e3.When.Day,.isl false (e3.When.Parts.map ac),I e3.Within,str e3.Repair]]⟩] 3):=by
    intro u7 hu
    replace h:=hy72 u7 hu
    refine sq h (fun h=>?_) fun h=>?_
    ·refine cq 4 [4] [B false] 19 ?_
     obtain rfl:=Option.some.inj h
     exact aj rfl (qp [B false])
    ·refine aq 1 ?_
     refine cq 5 [67] [I e3.Amount] 35 ?_
     obtain⟨r8,hr8,h⟩:=bS h
     refine oq 51 (B r8) rfl (cP (iX hr8)) ?_
     refine cq 2 [70] [B (!r8)] 83 ?_
     obtain⟨y9,hy9,hy91,hy92⟩:=bJ h
     have j9:∀u9,y9=.inr u9→Run ij 0 (dt (c_1,i_2) r) (.code Aj::.code uc::[]) (sT 119 [(1,I i_2),(2,.hp 1 0 [] 2 0 0),(5,.hp 2 0 [] 12 0 0),(90,B u9)] [⟨0,2,[.agg [.isl false (c_1.Parties.map str),.isl false (c_1.Clauses.map aa)]]⟩,⟨0,12,[.agg [str e3.Id,I e3.Kind,I e3.Party,str e3.Action,I e3.Other,I e3.Amount,I e3.When.Op,str e3.When.Name,I e3.When.Day,.isl false (e3.When.Parts.map ac),I e3.Within,str e3.Repair]]⟩] 3):=by
      intro u9 hu
      replace h:=hy92 u9 hu
      refine sq h (fun h=>?_) fun h=>?_
      ·refine cq 4 [4] [B false] 19 ?_
       obtain rfl:=Option.some.inj h
       exact aj rfl (qp [B false])
      ·refine aq 1 ?_
       refine cq 7 [93] [B (e3.Repair==([]:ae))] 51 ?_
       refine sq h (fun h=>?_) fun h=>?_
       ·refine cq 4 [4] [B true] 67 ?_
        obtain rfl:=Option.some.inj h
        exact aj rfl (qp [B true])
       ·refine aq 1 ?_
        refine cq 5 [94,96] [.agg [.isl false (c_1.Parties.map str),.isl false (c_1.Clauses.map aa)],str e3.Repair] 99 ?_
        obtain⟨r10,hr10,h⟩:=bS h
        refine oq 115 (I r10) rfl (cP (Su hr10)) ?_
        refine cq 8 [7,101] [I r10,B (e3.Kind != 3)] 195 ?_
        obtain⟨y11,hy11,hy111,hy112⟩:=bJ h
        have j11:∀u11,y11=.inr u11→Run ij 0 (dt (c_1,i_2) r) (.code Gy::[]) (sT 119 [(4,B u11)] [] 1):=by
         intro u11 hu
         replace h:=hy112 u11 hu
         obtain rfl:=Option.some.inj h
         exact aj rfl (qp [B u11])
        have r11:∀r',y11=.inl r'→∀st,dt (c_1,i_2) r' st→(dt (c_1,i_2) r) st:=fun r' e st hq=>by rw[hy111 r' e] at hq;exact hq
        replace h:=hy11
        refine sp 101 h rfl (fun h=>?_) fun h=>?_
        ·refine cq 4 [105] [B (decide (r10≥0))] 259 ?_
         obtain⟨y12,hy12,hy121,hy122⟩:=bL h
         have j12:∀u12,y12=.inr u12→Run ij 0 (dt (c_1,i_2) r) (.code Gy::[]) (sT 119 [(4,B u12)] [] 1):=by
          intro u12 hu
          replace h:=hy122 u12 hu
          exact rf [4] [] (j11 _ (Option.some.inj h).symm :)
         have r12:∀r',y12=.inl r'→∀st,dt (c_1,i_2) r' st→(dt (c_1,i_2) r) st:=fun r' e st hq=>r11 r' (hy121 r' e) st hq
         replace h:=hy12
         refine sp 105 h rfl (fun h=>?_) fun h=>?_
         ·refine cq 5 [110] [B (r10 != i_2)] 339 ?_
          obtain⟨y13,hy13,hy131,hy132⟩:=bL h
          have j13:∀u13,y13=.inr u13→Run ij 0 (dt (c_1,i_2) r) (.code Gy::[]) (sT 119 [(4,B u13)] [] 1):=by
           intro u13 hu
           replace h:=hy132 u13 hu
           exact rf [4] [] (j12 _ (Option.some.inj h).symm :)
          have r13:∀r',y13=.inl r'→∀st,dt (c_1,i_2) r' st→(dt (c_1,i_2) r) st:=fun r' e st hq=>r12 r' (hy131 r' e) st hq
          replace h:=hy13
          refine sp 110 h rfl (fun h=>?_) fun h=>?_
          ·refine cq 3 [112,113] [.isl false (c_1.Clauses.map aa),I r10] 387 ?_
           obtain⟨e14,he14,h⟩:=bS h
           refine oy 403 (.iptr (.agg [str e14.Id,I e14.Kind,I e14.Party,str e14.Action,I e14.Other,I e14.Amount,I e14.When.Op,str e14.When.Name,I e14.When.Day,.isl false (e14.When.Parts.map ac),I e14.Within,str e14.Repair]) 0) rfl (ap rfl rfl rfl (aQ rfl rfl rfl rfl he14)) ?_
           refine cq 6 [4] [B (e14.Kind==1)] 483 ?_
           exact rf [4] [] (j13 _ (Option.some.inj h).symm :)
          ·refine cq 10 [4] [B false] 483 ?_
           exact rf [4] [] (j13 _ (Option.some.inj h).symm :)
         ·refine cq 15 [4] [B false] 483 ?_
          exact rf [4] [] (j12 _ (Option.some.inj h).symm :)
        ·refine cq 19 [4] [B false] 483 ?_
         exact rf [4] [] (j11 _ (Option.some.inj h).symm :)
     have r9:∀r',y9=.inl r'→∀st,dt (c_1,i_2) r' st→(dt (c_1,i_2) r) st:=fun r' e st hq=>by rw[hy91 r' e] at hq;exact hq
     replace h:=hy9
     refine sp 70 h rfl (fun h=>?_) fun h=>?_
     ·refine cq 21 [90] [B true] 403 ?_
      exact rf [1,2,5,90] [1,2] (j9 _ (Option.some.inj h).symm :)
     ·refine cq 2 [72] [I e3.Within] 115 ?_
      obtain⟨r15,hr15,h⟩:=bS h
      refine oy 131 (B r15) rfl (cP (iX hr15)) ?_
      refine cq 3 [76] [B (!r15)] 179 ?_
      obtain⟨u16,hu16,h⟩:=lJ h
      have j16:Run ij 0 (dt (c_1,i_2) r) (.code Aj::.code uc::[]) (sT 119 [(1,I i_2),(2,.hp 1 0 [] 2 0 0),(5,.hp 2 0 [] 12 0 0),(90,B u16)] [⟨0,2,[.agg [.isl false (c_1.Parties.map str),.isl false (c_1.Clauses.map aa)]]⟩,⟨0,12,[.agg [str e3.Id,I e3.Kind,I e3.Party,str e3.Action,I e3.Other,I e3.Amount,I e3.When.Op,str e3.When.Name,I e3.When.Day,.isl false (e3.When.Parts.map ac),I e3.Within,str e3.Repair]]⟩] 3):=by
       exact rf [1,2,5,90] [1,2] (j9 _ (Option.some.inj h).symm :)
      replace h:=hu16
      clear hu16
      refine sp 76 h rfl (fun h=>?_) fun h=>?_
      ·refine cq 15 [90] [B true] 403 ?_
       subst h
       exact rf [1,2,5,90] [1,2] (j16 :)
      ·refine cq 4 [80] [B (e3.Kind != 1)] 243 ?_
       obtain⟨u17,hu17,h⟩:=lJ h
       have j17:Run ij 0 (dt (c_1,i_2) r) (.code Aj::.code uc::[]) (sT 119 [(1,I i_2),(2,.hp 1 0 [] 2 0 0),(5,.hp 2 0 [] 12 0 0),(90,B u17)] [⟨0,2,[.agg [.isl false (c_1.Parties.map str),.isl false (c_1.Clauses.map aa)]]⟩,⟨0,12,[.agg [str e3.Id,I e3.Kind,I e3.Party,str e3.Action,I e3.Other,I e3.Amount,I e3.When.Op,str e3.When.Name,I e3.When.Day,.isl false (e3.When.Parts.map ac),I e3.Within,str e3.Repair]]⟩] 3):=by
        subst h
        exact rf [1,2,5,90] [1,2] (j16 :)
       replace h:=hu17
       clear hu17
       refine sp 80 h rfl (fun h=>?_) fun h=>?_
       ·refine cq 4 [84] [B (e3.Amount != 0)] 307 ?_
        obtain⟨u18,hu18,h⟩:=lJ h
        have j18:Run ij 0 (dt (c_1,i_2) r) (.code Aj::.code uc::[]) (sT 119 [(1,I i_2),(2,.hp 1 0 [] 2 0 0),(5,.hp 2 0 [] 12 0 0),(90,B u18)] [⟨0,2,[.agg [.isl false (c_1.Parties.map str),.isl false (c_1.Clauses.map aa)]]⟩,⟨0,12,[.agg [str e3.Id,I e3.Kind,I e3.Party,str e3.Action,I e3.Other,I e3.Amount,I e3.When.Op,str e3.When.Name,I e3.When.Day,.isl false (e3.When.Parts.map ac),I e3.Within,str e3.Repair]]⟩] 3):=by
         subst h
         exact rf [1,2,5,90] [1,2] (j17 :)
        replace h:=hu18
        clear hu18
        refine sp 84 h rfl (fun h=>?_) fun h=>?_
        ·refine cq 7 [90] [B true] 403 ?_
         subst h
         exact rf [1,2,5,90] [1,2] (j18 :)
        ·refine cq 7 [90] [B (e3.Within != 0)] 403 ?_
         subst h
         exact rf [1,2,5,90] [1,2] (j18 :)
       ·refine cq 11 [90] [B false] 403 ?_
        subst h
        exact rf [1,2,5,90] [1,2] (j17 :)
   have r7:∀r',y7=.inl r'→∀st,dt (c_1,i_2) r' st→(dt (c_1,i_2) r) st:=fun r' e st hq=>by rw[hy71 r' e] at hq;exact hq
   replace h:=hy7
   refine sp 46 h rfl (fun h=>?_) fun h=>?_
   ·refine cq 20 [65] [B true] 403 ?_
    exact rf [1,2,5,65] [1,2] (j7 _ (Option.some.inj h).symm :)
   ·refine cq 3 [48,49] [I e3.Other,I (ar ((len c_1.Parties) - 1))] 147 ?_
    obtain⟨r19,hr19,h⟩:=bS h
    refine oy 163 (B r19) rfl (cP (iX hr19)) ?_
    refine cq 3 [53] [B (!r19)] 211 ?_
    obtain⟨y20,hy20,hy201,hy202⟩:=bL h
    have j20:∀u20,y20=.inr u20→Run ij 0 (dt (c_1,i_2) r) (.code GU::.code (cR (cR (cR (cR (cR jN)))))::[]) (sT 119 [(1,I i_2),(2,.hp 1 0 [] 2 0 0),(5,.hp 2 0 [] 12 0 0),(65,B u20)] [⟨0,2,[.agg [.isl false (c_1.Parties.map str),.isl false (c_1.Clauses.map aa)]]⟩,⟨0,12,[.agg [str e3.Id,I e3.Kind,I e3.Party,str e3.Action,I e3.Other,I e3.Amount,I e3.When.Op,str e3.When.Name,I e3.When.Day,.isl false (e3.When.Parts.map ac),I e3.Within,str e3.Repair]]⟩] 3):=by
     intro u20 hu
     replace h:=hy202 u20 hu
     exact rf [1,2,5,65] [1,2] (j7 _ (Option.some.inj h).symm :)
    have r20:∀r',y20=.inl r'→∀st,dt (c_1,i_2) r' st→(dt (c_1,i_2) r) st:=fun r' e st hq=>r7 r' (hy201 r' e) st hq
    replace h:=hy20
    refine sp 53 h rfl (fun h=>?_) fun h=>?_
    ·refine cq 13 [65] [B true] 403 ?_
     exact rf [1,2,5,65] [1,2] (j20 _ (Option.some.inj h).symm :)
    ·refine cq 7 [60] [B (e3.Party==e3.Other)] 323 ?_
     obtain⟨y21,hy21,hy211,hy212⟩:=bL h
     have j21:∀u21,y21=.inr u21→Run ij 0 (dt (c_1,i_2) r) (.code GU::.code (cR (cR (cR (cR (cR jN)))))::[]) (sT 119 [(1,I i_2),(2,.hp 1 0 [] 2 0 0),(5,.hp 2 0 [] 12 0 0),(65,B u21)] [⟨0,2,[.agg [.isl false (c_1.Parties.map str),.isl false (c_1.Clauses.map aa)]]⟩,⟨0,12,[.agg [str e3.Id,I e3.Kind,I e3.Party,str e3.Action,I e3.Other,I e3.Amount,I e3.When.Op,str e3.When.Name,I e3.When.Day,.isl false (e3.When.Parts.map ac),I e3.Within,str e3.Repair]]⟩] 3):=by
      intro u21 hu
      replace h:=hy212 u21 hu
      exact rf [1,2,5,65] [1,2] (j20 _ (Option.some.inj h).symm :)
     have r21:∀r',y21=.inl r'→∀st,dt (c_1,i_2) r' st→(dt (c_1,i_2) r) st:=fun r' e st hq=>r20 r' (hy211 r' e) st hq
     replace h:=hy21
     refine sp 60 h rfl (fun h=>?_) fun h=>?_
     ·refine cq 6 [65] [B true] 403 ?_
      exact rf [1,2,5,65] [1,2] (j21 _ (Option.some.inj h).symm :)
     ·refine cq 2 [62] [.agg [I e3.When.Op,str e3.When.Name,I e3.When.Day,.isl false (e3.When.Parts.map ac)]] 355 ?_
      obtain⟨r22,hr22,h⟩:=bS h
      refine oy 371 (B r22) rfl (cP (WW hr22)) ?_
      refine cq 3 [65] [B (!r22)] 403 ?_
      exact rf [1,2,5,65] [1,2] (j21 _ (Option.some.inj h).symm :)
 have r5:∀r',y5=.inl r'→∀st,dt (c_1,i_2) r' st→(dt (c_1,i_2) r) st:=fun r' e st hq=>by rw[hy51 r' e] at hq;exact hq
 replace h:=hy5
 refine sp 21 h rfl (fun h=>?_) fun h=>?_
 ·refine cq 20 [40] [B true] 609 ?_
  exact rf [1,2,5,6,40] [1,113] (j5 _ (Option.some.inj h).symm :)
 ·refine cq 3 [22,24] [.agg [.isl false (c_1.Parties.map str),.isl false (c_1.Clauses.map aa)],str e3.Id] 353 ?_
  obtain⟨r23,hr23,h⟩:=bS h
  refine oy 369 (I r23) rfl (cP (Su hr23)) ?_
  refine cq 4 [29] [B (r23 != i_2)] 433 ?_
  obtain⟨y24,hy24,hy241,hy242⟩:=bL h
  have j24:∀u24,y24=.inr u24→Run ij 0 (dt (c_1,i_2) r) (.code (cR (cL (cR (cR (cR jN)))))::.code (cR (cR (cR (cR jN))))::[]) (sT 119 [(1,I i_2),(2,.hp 1 0 [] 2 0 0),(5,.hp 2 0 [] 12 0 0),(6,I (ar ((len c_1.Parties) - 1))),(40,B u24)] [⟨0,2,[.agg [.isl false (c_1.Parties.map str),.isl false (c_1.Clauses.map aa)]]⟩,⟨0,12,[.agg [str e3.Id,I e3.Kind,I e3.Party,str e3.Action,I e3.Other,I e3.Amount,I e3.When.Op,str e3.When.Name,I e3.When.Day,.isl false (e3.When.Parts.map ac),I e3.Within,str e3.Repair]]⟩] 3):=by
   intro u24 hu
   replace h:=hy242 u24 hu
   exact rf [1,2,5,6,40] [1,2] (j5 _ (Option.some.inj h).symm :)
  have r24:∀r',y24=.inl r'→∀st,dt (c_1,i_2) r' st→(dt (c_1,i_2) r) st:=fun r' e st hq=>r5 r' (hy241 r' e) st hq
  replace h:=hy24
  refine sp 29 h rfl (fun h=>?_) fun h=>?_
  ·refine cq 12 [40] [B true] 609 ?_
   exact rf [1,2,5,6,40] [1,113] (j24 _ (Option.some.inj h).symm :)
  ·refine cq 2 [31] [str e3.Action] 465 ?_
   obtain⟨r25,hr25,h⟩:=bS h
   refine oy 481 (B r25) rfl (cP (AU hr25)) ?_
   refine cq 3 [35] [B (!r25)] 529 ?_
   obtain⟨y26,hy26,hy261,hy262⟩:=bL h
   have j26:∀u26,y26=.inr u26→Run ij 0 (dt (c_1,i_2) r) (.code (cR (cL (cR (cR (cR jN)))))::.code (cR (cR (cR (cR jN))))::[]) (sT 119 [(1,I i_2),(2,.hp 1 0 [] 2 0 0),(5,.hp 2 0 [] 12 0 0),(6,I (ar ((len c_1.Parties) - 1))),(40,B u26)] [⟨0,2,[.agg [.isl false (c_1.Parties.map str),.isl false (c_1.Clauses.map aa)]]⟩,⟨0,12,[.agg [str e3.Id,I e3.Kind,I e3.Party,str e3.Action,I e3.Other,I e3.Amount,I e3.When.Op,str e3.When.Name,I e3.When.Day,.isl false (e3.When.Parts.map ac),I e3.Within,str e3.Repair]]⟩] 3):=by
    intro u26 hu
    replace h:=hy262 u26 hu
    exact rf [1,2,5,6,40] [1,2] (j24 _ (Option.some.inj h).symm :)
   have r26:∀r',y26=.inl r'→∀st,dt (c_1,i_2) r' st→(dt (c_1,i_2) r) st:=fun r' e st hq=>r24 r' (hy261 r' e) st hq
   replace h:=hy26
   refine sp 35 h rfl (fun h=>?_) fun h=>?_
   ·refine cq 6 [40] [B true] 609 ?_
    exact rf [1,2,5,6,40] [1,113] (j26 _ (Option.some.inj h).symm :)
   ·refine cq 2 [37] [I e3.Kind] 561 ?_
    obtain⟨r27,hr27,h⟩:=bS h
    refine oy 577 (B r27) rfl (cP (iX hr27)) ?_
    refine cq 3 [40] [B (!r27)] 609 ?_
    exact rf [1,2,5,6,40] [1,113] (j26 _ (Option.some.inj h).symm :)
theorem Qh {G:Go.Ln.Ground}:aI Tryz.prog G 124 DC:=gT 2 0 (aD rk (aD jr (aD Py (aD PG bg)))) (Checked.mixed Tryz.checked) Tryz.func124 (fun a r h=>S6 a.1 a.2 r h)
def BX:(Condition×(List ae))→List V:=cA aP (oA (Ct 1 str))
def zN (r:(List ae)):V×List V:=(.usl 1 (r.map str),[.dead])
noncomputable def xB (slf_Ffe:(Condition×(List ae))→Option (List ae)):Ent:=aR [false,true] BX zN slf_Ffe
theorem O1 (slf_Ffe:(Condition×(List ae))→Option (List ae)){x}{r}(h:slf_Ffe x=some r):(xB slf_Ffe).F (BX x)=some (zN r):=aC (aY cf (aB (nU bm))) h
noncomputable def Dj:Ent:=xB (aJ lA)
theorem Sj {c_3:Condition}{list_4:List ae}{r}(h:M8 c_3 list_4=some r):Dj.F (BX (c_3,list_4))=some (zN r):=O1 (aJ lA) h
noncomputable def J7:Code:=az Tryz.f186
noncomputable def Fp (slf_Ffe:(Condition×(List ae))→Option (List ae)):Env:=bF Tryz.prog [(186,(xB slf_Ffe))]
def AM (slf_Ffe:(Condition×(List ae))→Option (List ae))(x:Condition×(List ae))(r:(List ae)):St→Prop:=QF (Fp slf_Ffe) Tryz.f186 [false,true] (BX x) (zN r)
end Go.Ln
