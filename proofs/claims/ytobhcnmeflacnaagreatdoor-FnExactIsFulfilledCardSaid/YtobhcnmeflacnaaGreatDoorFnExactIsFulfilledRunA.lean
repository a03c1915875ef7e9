/-
  Each function of the program computes its plain function.
-/
import Derived.Test.YtobhcnmeflacnaaGreatDoorFnExactIsFulfilledFun
import Derived.Test.YtobhcnmeflacnaaGreatDoorChecked
set_option maxHeartbeats 4000000
set_option linter.unusedVariables false
set_option linter.unusedSimpArgs false
set_option maxRecDepth 100000
namespace Go.Ln
open Go Go.Proofs
def BS:((List ah)×Int)→List V:=cA (ee str) (oA I)
def AG (r:Int):V×List V:=(I r,[])
noncomputable def rX:Ent:=aP [false,false] BS AG fun x=>tF x.1 x.2
theorem M2 {a_1:List ah}{left_2:Int}{r}(h:tF a_1 left_2=some r):rX.F (BS (a_1,left_2))=some (AG r):=aA (aY (bw bm) (aB bO)) h
noncomputable def O2:Code:=ay Tryz.f57
noncomputable def Hi:Env:=bC Tryz.prog []
def O5 (x:(List ah)×Int)(r:Int):St→Prop:=QF Hi Tryz.f57 [false,false] (BS x) (AG r)
theorem JH (a_1:List ah)(left_2:Int):b9 Hi 0 (O5 (a_1,left_2)) (cL (cL (cR (cL (cR (cR (cR O2))))))) 0 (qZ a_1 left_2) (fun u=>(sT 28 [(1,I u)] [] 1)) fun x3=>(sT 28 [(0,.isl false (a_1.map str)),(1,I x3.1),(5,I x3.2)] [] 1):=dM (vB a_1 left_2) fun {Q K} hK self ih x3 y h hr hn=>by
 unfold ln at h
 refine cq 5 [12,13] [I x3.2,.isl false (a_1.map str)] 33 ?_
 refine oq 49 (I (len a_1)) rfl (aW rfl rfl rfl (bb rfl)) ?_
 refine cq 2 [15] [B (decide (x3.2<(len a_1)))] 65 ?_
 refine sq h (fun h=>?_) fun h=>?_
 ·refine aq 1 ?_
  refine cq 7 [18,19,20] [I x3.1,.isl false (a_1.map str),I x3.2] 113 ?_
  obtain⟨e4,he4,h⟩:=bS h
  refine oq 129 (.iptr (str e4) 0) rfl (an rfl rfl rfl (aM rfl rfl rfl rfl he4)) ?_
  refine cq 10 [1,26] [I (ar (x3.1 - (len e4))),B (decide ((ar (x3.1 - (len e4)))<0))] 225 ?_
  refine sq h (fun h=>?_) fun h=>?_
  ·refine cq 4 [4] [I (-1)] 241 ?_
   exact ai rfl (hr _ (Option.some.inj h).symm _ (qp [I (-1)]))
  ·refine aq 1 ?_
   refine cq 6 [5] [I (ar (x3.2+1))] 273 ?_
   refine cE ?_
   exact rf [0,1,5] [] (ih _ _ h hr hn :)
 ·refine aq 1 ?_
  exact rf [1] [] (hn _ (Option.some.inj h).symm :) (hk:=hK)
theorem SN (a_1:List ah)(left_2:Int)(r:Int)(h:tF a_1 left_2=some r):bc Hi Tryz.f57 [false,false] 0 (BS (a_1,left_2)) (AG r):=by
 show Run _ _ (O5 (a_1,left_2) r) [.code O2] _
 refine rI 28 [(0,.isl false (a_1.map str)),(1,I left_2)] [] 1 ?_
 unfold tF at h
 refine cq 8 [6,7] [I left_2,.isl false (a_1.map str)] 49 ?_
 refine oq 65 (I (len a_1)) rfl (aW rfl rfl rfl (bb rfl)) ?_
 refine cq 9 [1,11] [I (ar (left_2 - (len a_1))),B (decide ((ar (left_2 - (len a_1)))<0))] 129 ?_
 refine sq h (fun h=>?_) fun h=>?_
 ·refine cq 4 [4] [I (-1)] 145 ?_
  obtain rfl:=Option.some.inj h
  exact ai rfl (qp [I (-1)])
 ·refine aq 1 ?_
  refine cq 6 [5] [I (0)] 145 ?_
  obtain⟨y5,hy5,hy51,hy52⟩:=bJ h
  refine bD rfl ?_
  refine rf [0,1,5] [] (JH a_1 left_2 rfl ((ar (left_2 - (len a_1))),0) _ hy5 (fun r' e st hq=>by rw[hy51 r' e] at hq;exact hq) fun u5 hu=>?_)
  replace h:=hy52 u5 hu
  refine cq 5 [4] [I u5] 33 ?_
  obtain rfl:=Option.some.inj h
  exact ai rfl (qp [I u5])
theorem E1 {G:Go.Ln.Ground}:aH Tryz.prog G 57 rX:=gT 2 0 bf (Checked.mixed Tryz.checked) Tryz.func57 (fun a r h=>SN a.1 a.2 r h)
def ur:(Condition×Int)→List V:=cA aU (oA I)
def tS (r:Int):V×List V:=(I r,[])
noncomputable def o8 (slf_Ffbo:(Condition×Int)→Option Int):Ent:=aP [false,false] ur tS slf_Ffbo
theorem Kp (slf_Ffbo:(Condition×Int)→Option Int){x}{r}(h:slf_Ffbo x=some r):(o8 slf_Ffbo).F (ur x)=some (tS r):=aA (aY cf (aB bO)) h
def CU:((List Condition)×Int)→List V:=cA (ee ac) (oA I)
def BV (r:Int):V×List V:=(I r,[])
noncomputable def yj (slf_Ffbo:(Condition×Int)→Option Int):Ent:=aP [false,false] CU BV fun x=>tB slf_Ffbo x.1 x.2
theorem VK (slf_Ffbo:(Condition×Int)→Option Int){a_1:List Condition}{left_2:Int}{r}(h:tB slf_Ffbo a_1 left_2=some r):(yj slf_Ffbo).F (CU (a_1,left_2))=some (BV r):=aA (aY (bw dW) (aB bO)) h
noncomputable def PY:Code:=ay Tryz.f215
noncomputable def HW (slf_Ffbo:(Condition×Int)→Option Int):Env:=bC Tryz.prog [(178,(o8 slf_Ffbo))]
def OT (slf_Ffbo:(Condition×Int)→Option Int)(x:(List Condition)×Int)(r:Int):St→Prop:=QF (HW slf_Ffbo) Tryz.f215 [false,false] (CU x) (BV r)
theorem Jn (slf_Ffbo:(Condition×Int)→Option Int)(a_1:List Condition)(left_2:Int):b9 (HW slf_Ffbo) 0 (OT slf_Ffbo (a_1,left_2)) (cL (cL (cR (cL (cR (cR (cR PY))))))) 0 (nZ slf_Ffbo a_1 left_2) (fun u=>(sT 27 [(1,I u)] [] 1)) fun x3=>(sT 27 [(0,.isl false (a_1.map ac)),(1,I x3.1),(5,I x3.2)] [] 1):=dM (wy slf_Ffbo a_1 left_2) fun {Q K} hK self ih x3 y h hr hn=>by
 unfold jl at h
 refine cq 5 [12,13] [I x3.2,.isl false (a_1.map ac)] 33 ?_
 refine oq 49 (I (len a_1)) rfl (aW rfl rfl rfl (bb rfl)) ?_
 refine cq 2 [15] [B (decide (x3.2<(len a_1)))] 65 ?_
 refine sq h (fun h=>?_) fun h=>?_
 ·refine aq 1 ?_
  refine cq 6 [18,19] [.isl false (a_1.map ac),I x3.2] 97 ?_
  obtain⟨e4,he4,h⟩:=bS h
  refine oq 113 (.iptr (aU e4) 0) rfl (an rfl rfl rfl (aM rfl rfl (ce e4) rfl he4)) ?_
  refine cq 2 [21,22] [aU e4,I x3.1] 145 ?_
  obtain⟨r5,hr5,h⟩:=bS h
  refine oq 161 (I r5) rfl (co rfl rfl (cM rfl rfl rfl (ca (cT rfl) (ca (cT rfl) dD)) (Kp slf_Ffbo hr5) (.inr rfl) ec rfl rfl rfl)) ?_
  refine cq 7 [1,25] [I r5,B (decide (r5<0))] 209 ?_
  refine sq h (fun h=>?_) fun h=>?_
  ·refine cq 4 [4] [I (-1)] 225 ?_
   exact ai rfl (hr _ (Option.some.inj h).symm _ (qp [I (-1)]))
  ·refine aq 1 ?_
   refine cq 6 [5] [I (ar (x3.2+1))] 257 ?_
   refine cE ?_
   exact rf [0,1,5] [] (ih _ _ h hr hn :)
 ·refine aq 1 ?_
  exact rf [1] [] (hn _ (Option.some.inj h).symm :) (hk:=hK)
theorem SF (slf_Ffbo:(Condition×Int)→Option Int)(a_1:List Condition)(left_2:Int)(r:Int)(h:tB slf_Ffbo a_1 left_2=some r):bc (HW slf_Ffbo) Tryz.f215 [false,false] 0 (CU (a_1,left_2)) (BV r):=by
 show Run _ _ (OT slf_Ffbo (a_1,left_2) r) [.code PY] _
 refine rI 27 [(0,.isl false (a_1.map ac)),(1,I left_2)] [] 1 ?_
 unfold tB at h
 refine cq 8 [6,7] [I left_2,.isl false (a_1.map ac)] 49 ?_
 refine oq 65 (I (len a_1)) rfl (aW rfl rfl rfl (bb rfl)) ?_
 refine cq 9 [1,11] [I (ar (left_2 - (len a_1))),B (decide ((ar (left_2 - (len a_1)))<0))] 129 ?_
 refine sq h (fun h=>?_) fun h=>?_
 ·refine cq 4 [4] [I (-1)] 145 ?_
  obtain rfl:=Option.some.inj h
  exact ai rfl (qp [I (-1)])
 ·refine aq 1 ?_
  refine cq 6 [5] [I (0)] 145 ?_
  obtain⟨y6,hy6,hy61,hy62⟩:=bJ h
  refine bD rfl ?_
  refine rf [0,1,5] [] (Jn slf_Ffbo a_1 left_2 rfl ((ar (left_2 - (len a_1))),0) _ hy6 (fun r' e st hq=>by rw[hy61 r' e] at hq;exact hq) fun u6 hu=>?_)
  replace h:=hy62 u6 hu
  refine cq 5 [4] [I u6] 33 ?_
  obtain rfl:=Option.some.inj h
  exact ai rfl (qp [I u6])
theorem Pd {G:Go.Ln.Ground}(slf_Ffbo:(Condition×Int)→Option Int)(g_Ffbo:aH Tryz.prog G 178 (o8 slf_Ffbo)):aH Tryz.prog G 215 (yj slf_Ffbo):=gT 2 0 (aD g_Ffbo bf) (Checked.mixed Tryz.checked) Tryz.func215 (fun a r h=>SF slf_Ffbo a.1 a.2 r h)
noncomputable def xH:Ent:=o8 (aJ mY)
theorem VX {a_1:Condition}{left_2:Int}{r}(h:un a_1 left_2=some r):xH.F (ur (a_1,left_2))=some (tS r):=Kp (aJ mY) h
noncomputable def VO:Code:=ay Tryz.f178
noncomputable def NR (slf_Ffbo:(Condition×Int)→Option Int):Env:=bC Tryz.prog [(215,(yj slf_Ffbo))]
def Wl (slf_Ffbo:(Condition×Int)→Option Int)(x:Condition×Int)(r:Int):St→Prop:=QF (NR slf_Ffbo) Tryz.f178 [false,false] (ur x) (tS r)
theorem QV (slf_Ffbo:(Condition×Int)→Option Int)(a_1:Condition)(left_2:Int)(r:Int)(h:qK slf_Ffbo a_1 left_2=some r):bc (NR slf_Ffbo) Tryz.f178 [false,false] 0 (ur (a_1,left_2)) (tS r):=by
 show Run _ _ (Wl slf_Ffbo (a_1,left_2) r) [.code VO] _
 refine rI 19 [(0,aU a_1),(1,I left_2)] [] 1 ?_
 unfold qK at h
 refine ck 20 [1,2,11] [] [1] [] [I (ar (left_2 - (len a_1.Name))),.hp 1 0 [] 4 0 0,B (decide ((ar (left_2 - (len a_1.Name)))<0))] [some ⟨0,4,[aU a_1]⟩] 161 (by kernel_rfl) ?_
 refine sq h (fun h=>?_) fun h=>?_
 ·refine cq 4 [4] [I (-1)] 177 ?_
  obtain rfl:=Option.some.inj h
  exact ai rfl (qp [I (-1)])
 ·refine aq 1 ?_
  refine cq 5 [13,14] [.isl false (a_1.Parts.map ac),I (ar (left_2 - (len a_1.Name)))] 209 ?_
  obtain⟨r3,hr3,h⟩:=bS h
  refine oq 225 (I r3) rfl (co rfl rfl (cM rfl rfl rfl (ca (cT rfl) (ca (cT rfl) dD)) (VK slf_Ffbo hr3) (.inr rfl) ec rfl rfl rfl)) ?_
  refine cq 8 [1,17] [I r3,B (decide (r3<0))] 273 ?_
  refine sq h (fun h=>?_) fun h=>?_
  ·refine cq 4 [4] [I (-1)] 289 ?_
   obtain rfl:=Option.some.inj h
   exact ai rfl (qp [I (-1)])
  ·refine aq 1 ?_
   refine cq 5 [4] [I r3] 305 ?_
   obtain rfl:=Option.some.inj h
   exact ai rfl (qp [I r3])
theorem OO {G:Go.Ln.Ground}:aH Tryz.prog G 178 xH:=jy fun slf_Ffbo g_Ffbo=>gT 2 0 (aD (Pd slf_Ffbo g_Ffbo) bf) (Checked.mixed Tryz.checked) Tryz.func178 (fun a r h=>QV slf_Ffbo a.1 a.2 r h)
def AM:(Clause×Int)→List V:=cA aa (oA I)
def zT (r:Int):V×List V:=(I r,[])
noncomputable def zh:Ent:=aP [false,false] AM zT fun x=>ro x.1 x.2
theorem V1 {a_1:Clause}{left_2:Int}{r}(h:ro a_1 left_2=some r):zh.F (AM (a_1,left_2))=some (zT r):=aA (aY cp (aB bO)) h
noncomputable def W1:Code:=ay Tryz.f113
noncomputable def Om:Env:=bC Tryz.prog [(178,xH)]
def Wy (x:Clause×Int)(r:Int):St→Prop:=QF Om Tryz.f113 [false,false] (AM x) (zT r)
theorem Re (a_1:Clause)(left_2:Int)(r:Int)(h:ro a_1 left_2=some r):bc Om Tryz.f113 [false,false] 0 (AM (a_1,left_2)) (zT r):=by
 show Run _ _ (Wy (a_1,left_2) r) [.code W1] _
 refine rI 33 [(0,aa a_1),(1,I left_2)] [] 1 ?_
 unfold ro at h
 refine ck 20 [1,2,11] [] [1] [] [I (ar (left_2 - (len a_1.Id))),.hp 1 0 [] 12 0 0,B (decide ((ar (left_2 - (len a_1.Id)))<0))] [some ⟨0,12,[aa a_1]⟩] 161 (by kernel_rfl) ?_
 refine sq h (fun h=>?_) fun h=>?_
 ·refine cq 4 [4] [I (-1)] 177 ?_
  obtain rfl:=Option.some.inj h
  exact ai rfl (qp [I (-1)])
 ·refine aq 1 ?_
  refine cq 15 [1,18] [I (ar ((ar (left_2 - (len a_1.Id))) - (len a_1.Action))),B (decide ((ar ((ar (left_2 - (len a_1.Id))) - (len a_1.Action)))<0))] 289 ?_
  refine sq h (fun h=>?_) fun h=>?_
  ·refine cq 4 [4] [I (-1)] 305 ?_
   obtain rfl:=Option.some.inj h
   exact ai rfl (qp [I (-1)])
  ·refine aq 1 ?_
   refine cq 5 [20,21] [aU a_1.When,I (ar ((ar (left_2 - (len a_1.Id))) - (len a_1.Action)))] 337 ?_
   obtain⟨r3,hr3,h⟩:=bS h
   refine oq 353 (I r3) rfl (cP (VX hr3)) ?_
   refine cq 8 [1,24] [I r3,B (decide (r3<0))] 401 ?_
   refine sq h (fun h=>?_) fun h=>?_
   ·refine cq 4 [4] [I (-1)] 417 ?_
    obtain rfl:=Option.some.inj h
    exact ai rfl (qp [I (-1)])
   ·refine aq 1 ?_
    refine cq 15 [1,31] [I (ar (r3 - (len a_1.Repair))),B (decide ((ar (r3 - (len a_1.Repair)))<0))] 529 ?_
    refine sq h (fun h=>?_) fun h=>?_
    ·refine cq 4 [4] [I (-1)] 545 ?_
     obtain rfl:=Option.some.inj h
     exact ai rfl (qp [I (-1)])
    ·refine aq 1 ?_
     refine cq 5 [4] [I (ar (r3 - (len a_1.Repair)))] 561 ?_
     obtain rfl:=Option.some.inj h
     exact ai rfl (qp [I (ar (r3 - (len a_1.Repair)))])
theorem Mn {G:Go.Ln.Ground}:aH Tryz.prog G 113 zh:=gT 2 0 (aD OO bf) (Checked.mixed Tryz.checked) Tryz.func113 (fun a r h=>Re a.1 a.2 r h)
def BH:((List Clause)×Int)→List V:=cA (ee aa) (oA I)
def C4 (r:Int):V×List V:=(I r,[])
noncomputable def wM:Ent:=aP [false,false] BH C4 fun x=>zg x.1 x.2
theorem Vs {a_1:List Clause}{left_2:Int}{r}(h:zg a_1 left_2=some r):wM.F (BH (a_1,left_2))=some (C4 r):=aA (aY (bw cp) (aB bO)) h
noncomputable def NP:Code:=ay Tryz.f58
noncomputable def GH:Env:=bC Tryz.prog [(113,zh)]
def OL (x:(List Clause)×Int)(r:Int):St→Prop:=QF GH Tryz.f58 [false,false] (BH x) (C4 r)
theorem IR (a_1:List Clause)(left_2:Int):b9 GH 0 (OL (a_1,left_2)) (cL (cL (cR (cL (cR (cR (cR NP))))))) 0 (qo a_1 left_2) (fun u=>(sT 27 [(1,I u)] [] 1)) fun x3=>(sT 27 [(0,.isl false (a_1.map aa)),(1,I x3.1),(5,I x3.2)] [] 1):=dM (vV a_1 left_2) fun {Q K} hK self ih x3 y h hr hn=>by
 unfold ls at h
 refine cq 5 [12,13] [I x3.2,.isl false (a_1.map aa)] 33 ?_
 refine oq 49 (I (len a_1)) rfl (aW rfl rfl rfl (bb rfl)) ?_
 refine cq 2 [15] [B (decide (x3.2<(len a_1)))] 65 ?_
 refine sq h (fun h=>?_) fun h=>?_
 ·refine aq 1 ?_
  refine cq 6 [18,19] [.isl false (a_1.map aa),I x3.2] 97 ?_
  obtain⟨e4,he4,h⟩:=bS h
  refine oq 113 (.iptr (aa e4) 0) rfl (an rfl rfl rfl (aM rfl rfl rfl rfl he4)) ?_
  refine cq 2 [21,22] [aa e4,I x3.1] 145 ?_
  obtain⟨r5,hr5,h⟩:=bS h
  refine oq 161 (I r5) rfl (cP (V1 hr5)) ?_
  refine cq 7 [1,25] [I r5,B (decide (r5<0))] 209 ?_
  refine sq h (fun h=>?_) fun h=>?_
  ·refine cq 4 [4] [I (-1)] 225 ?_
   exact ai rfl (hr _ (Option.some.inj h).symm _ (qp [I (-1)]))
  ·refine aq 1 ?_
   refine cq 6 [5] [I (ar (x3.2+1))] 257 ?_
   refine cE ?_
   exact rf [0,1,5] [] (ih _ _ h hr hn :)
 ·refine aq 1 ?_
  exact rf [1] [] (hn _ (Option.some.inj h).symm :) (hk:=hK)
theorem QU (a_1:List Clause)(left_2:Int)(r:Int)(h:zg a_1 left_2=some r):bc GH Tryz.f58 [false,false] 0 (BH (a_1,left_2)) (C4 r):=by
 show Run _ _ (OL (a_1,left_2) r) [.code NP] _
 refine rI 27 [(0,.isl false (a_1.map aa)),(1,I left_2)] [] 1 ?_
 unfold zg at h
 refine cq 8 [6,7] [I left_2,.isl false (a_1.map aa)] 49 ?_
 refine oq 65 (I (len a_1)) rfl (aW rfl rfl rfl (bb rfl)) ?_
 refine cq 9 [1,11] [I (ar (left_2 - (len a_1))),B (decide ((ar (left_2 - (len a_1)))<0))] 129 ?_
 refine sq h (fun h=>?_) fun h=>?_
 ·refine cq 4 [4] [I (-1)] 145 ?_
  obtain rfl:=Option.some.inj h
  exact ai rfl (qp [I (-1)])
 ·refine aq 1 ?_
  refine cq 6 [5] [I (0)] 145 ?_
  obtain⟨y6,hy6,hy61,hy62⟩:=bJ h
  refine bD rfl ?_
  refine rf [0,1,5] [] (IR a_1 left_2 rfl ((ar (left_2 - (len a_1))),0) _ hy6 (fun r' e st hq=>by rw[hy61 r' e] at hq;exact hq) fun u6 hu=>?_)
  replace h:=hy62 u6 hu
  refine cq 5 [4] [I u6] 33 ?_
  obtain rfl:=Option.some.inj h
  exact ai rfl (qp [I u6])
theorem Ng {G:Go.Ln.Ground}:aH Tryz.prog G 58 wM:=gT 2 0 (aD Mn bf) (Checked.mixed Tryz.checked) Tryz.func58 (fun a r h=>QU a.1 a.2 r h)
def CS:(Contract×Int)→List V:=cA aG (oA I)
def De (r:Int):V×List V:=(I r,[])
noncomputable def yM:Ent:=aP [false,false] CS De fun x=>yH x.1 x.2
theorem WW {a_1:Contract}{left_2:Int}{r}(h:yH a_1 left_2=some r):yM.F (CS (a_1,left_2))=some (De r):=aA (aY aQ (aB bO)) h
noncomputable def Wc:Code:=ay Tryz.f15
noncomputable def MD:Env:=bC Tryz.prog [(57,rX),(58,wM)]
def WP (x:Contract×Int)(r:Int):St→Prop:=QF MD Tryz.f15 [false,false] (CS x) (De r)
theorem Qx (a_1:Contract)(left_2:Int)(r:Int)(h:yH a_1 left_2=some r):bc MD Tryz.f15 [false,false] 0 (CS (a_1,left_2)) (De r):=by
 show Run _ _ (WP (a_1,left_2) r) [.code Wc] _
 refine rI 18 [(0,aG a_1),(1,I left_2)] [] 1 ?_
 unfold yH at h
 refine ck 10 [2,6,7] [] [1] [] [.hp 1 0 [] 2 0 0,.isl false (a_1.Parties.map str),I left_2] [some ⟨0,2,[aG a_1]⟩] 81 (by kernel_rfl) ?_
 obtain⟨r3,hr3,h⟩:=bS h
 refine oq 97 (I r3) rfl (cP (M2 hr3)) ?_
 refine cq 8 [1,10] [I r3,B (decide (r3<0))] 145 ?_
 refine sq h (fun h=>?_) fun h=>?_
 ·refine cq 4 [4] [I (-1)] 161 ?_
  obtain rfl:=Option.some.inj h
  exact ai rfl (qp [I (-1)])
 ·refine aq 1 ?_
  refine cq 5 [12,13] [.isl false (a_1.Clauses.map aa),I r3] 193 ?_
  obtain⟨r4,hr4,h⟩:=bS h
  refine oq 209 (I r4) rfl (cP (Vs hr4)) ?_
  refine cq 8 [1,16] [I r4,B (decide (r4<0))] 257 ?_
  refine sq h (fun h=>?_) fun h=>?_
  ·refine cq 4 [4] [I (-1)] 273 ?_
   obtain rfl:=Option.some.inj h
   exact ai rfl (qp [I (-1)])
  ·refine aq 1 ?_
   refine cq 5 [4] [I r4] 289 ?_
   obtain rfl:=Option.some.inj h
   exact ai rfl (qp [I r4])
theorem P0 {G:Go.Ln.Ground}:aH Tryz.prog G 15 yM:=gT 2 0 (aD E1 (aD Ng bf)) (Checked.mixed Tryz.checked) Tryz.func15 (fun a r h=>Qx a.1 a.2 r h)
def BB:((List Duty)×Int)→List V:=cA (ee ae) (oA I)
def AR (r:Int):V×List V:=(I r,[])
noncomputable def xW:Ent:=aP [false,false] BB AR fun x=>xJ x.1 x.2
theorem Vx {a_1:List Duty}{left_2:Int}{r}(h:xJ a_1 left_2=some r):xW.F (BB (a_1,left_2))=some (AR r):=aA (aY (bw cy) (aB bO)) h
noncomputable def WR:Code:=ay Tryz.f59
noncomputable def Py:Env:=bC Tryz.prog []
def Wr (x:(List Duty)×Int)(r:Int):St→Prop:=QF Py Tryz.f59 [false,false] (BB x) (AR r)
theorem Sb (a_1:List Duty)(left_2:Int)(r:Int)(h:xJ a_1 left_2=some r):bc Py Tryz.f59 [false,false] 0 (BB (a_1,left_2)) (AR r):=by
 show Run _ _ (Wr (a_1,left_2) r) [.code WR] _
 refine rI 12 [(0,.isl false (a_1.map ae)),(1,I left_2)] [] 1 ?_
 unfold xJ at h
 refine cq 8 [5,6] [I left_2,.isl false (a_1.map ae)] 49 ?_
 refine oq 65 (I (len a_1)) rfl (aW rfl rfl rfl (bb rfl)) ?_
 refine cq 9 [1,10] [I (ar (left_2 - (len a_1))),B (decide ((ar (left_2 - (len a_1)))<0))] 129 ?_
 refine sq h (fun h=>?_) fun h=>?_
 ·refine cq 4 [4] [I (-1)] 145 ?_
  obtain rfl:=Option.some.inj h
  exact ai rfl (qp [I (-1)])
 ·refine aq 1 ?_
  refine cq 5 [4] [I (ar (left_2 - (len a_1)))] 161 ?_
  obtain rfl:=Option.some.inj h
  exact ai rfl (qp [I (ar (left_2 - (len a_1)))])
theorem PW {G:Go.Ln.Ground}:aH Tryz.prog G 59 xW:=gT 2 0 bf (Checked.mixed Tryz.checked) Tryz.func59 (fun a r h=>Sb a.1 a.2 r h)
def zj:((List Int)×Int)→List V:=cA (ee I) (oA I)
def zr (r:Int):V×List V:=(I r,[])
noncomputable def xR:Ent:=aP [false,false] zj zr fun x=>ze x.1 x.2
theorem WZ {a_1:List Int}{left_2:Int}{r}(h:ze a_1 left_2=some r):xR.F (zj (a_1,left_2))=some (zr r):=aA (aY (bw bO) (aB bO)) h
noncomputable def WV:Code:=ay Tryz.f60
noncomputable def Pj:Env:=bC Tryz.prog []
def Vf (x:(List Int)×Int)(r:Int):St→Prop:=QF Pj Tryz.f60 [false,false] (zj x) (zr r)
theorem Qg (a_1:List Int)(left_2:Int)(r:Int)(h:ze a_1 left_2=some r):bc Pj Tryz.f60 [false,false] 0 (zj (a_1,left_2)) (zr r):=by
 show Run _ _ (Vf (a_1,left_2) r) [.code WV] _
 refine rI 12 [(0,.isl false (a_1.map I)),(1,I left_2)] [] 1 ?_
 unfold ze at h
 refine cq 8 [5,6] [I left_2,.isl false (a_1.map I)] 49 ?_
 refine oq 65 (I (len a_1)) rfl (aW rfl rfl rfl (bb rfl)) ?_
 refine cq 9 [1,10] [I (ar (left_2 - (len a_1))),B (decide ((ar (left_2 - (len a_1)))<0))] 129 ?_
 refine sq h (fun h=>?_) fun h=>?_
 ·refine cq 4 [4] [I (-1)] 145 ?_
  obtain rfl:=Option.some.inj h
  exact ai rfl (qp [I (-1)])
 ·refine aq 1 ?_
  refine cq 5 [4] [I (ar (left_2 - (len a_1)))] 161 ?_
  obtain rfl:=Option.some.inj h
  exact ai rfl (qp [I (ar (left_2 - (len a_1)))])
theorem Mb {G:Go.Ln.Ground}:aH Tryz.prog G 60 xR:=gT 2 0 bf (Checked.mixed Tryz.checked) Tryz.func60 (fun a r h=>Qg a.1 a.2 r h)
def zA:(State×Int)→List V:=cA bH (oA I)
def Bf (r:Int):V×List V:=(I r,[])
noncomputable def xN:Ent:=aP [false,false] zA Bf fun x=>wW x.1 x.2
theorem WY {a_1:State}{left_2:Int}{r}(h:wW a_1 left_2=some r):xN.F (zA (a_1,left_2))=some (Bf r):=aA (aY cS (aB bO)) h
noncomputable def WN:Code:=ay Tryz.f16
noncomputable def PM:Env:=bC Tryz.prog [(57,rX),(59,xW),(60,xR)]
def Wa (x:State×Int)(r:Int):St→Prop:=QF PM Tryz.f16 [false,false] (zA x) (Bf r)
theorem Rm (a_1:State)(left_2:Int)(r:Int)(h:wW a_1 left_2=some r):bc PM Tryz.f16 [false,false] 0 (zA (a_1,left_2)) (Bf r):=by
 show Run _ _ (Wa (a_1,left_2) r) [.code WN] _
 refine rI 24 [(0,bH a_1),(1,I left_2)] [] 1 ?_
 unfold wW at h
 refine ck 10 [2,6,7] [] [1] [] [.hp 1 0 [] 5 0 0,.isl false (a_1.Facts.map str),I left_2] [some ⟨0,5,[bH a_1]⟩] 81 (by kernel_rfl) ?_
 obtain⟨r3,hr3,h⟩:=bS h
 refine oq 97 (I r3) rfl (cP (M2 hr3)) ?_
 refine cq 8 [1,10] [I r3,B (decide (r3<0))] 145 ?_
 refine sq h (fun h=>?_) fun h=>?_
 ·refine cq 4 [4] [I (-1)] 161 ?_
  obtain rfl:=Option.some.inj h
  exact ai rfl (qp [I (-1)])
 ·refine aq 1 ?_
  refine cq 5 [12,13] [.isl false (a_1.Duties.map ae),I r3] 193 ?_
  obtain⟨r4,hr4,h⟩:=bS h
  refine oq 209 (I r4) rfl (cP (Vx hr4)) ?_
  refine cq 8 [1,16] [I r4,B (decide (r4<0))] 257 ?_
  refine sq h (fun h=>?_) fun h=>?_
  ·refine cq 4 [4] [I (-1)] 273 ?_
   obtain rfl:=Option.some.inj h
   exact ai rfl (qp [I (-1)])
  ·refine aq 1 ?_
   refine cq 5 [18,19] [.isl false (a_1.Balances.map I),I r4] 305 ?_
   obtain⟨r5,hr5,h⟩:=bS h
   refine oq 321 (I r5) rfl (cP (WZ hr5)) ?_
   refine cq 8 [1,22] [I r5,B (decide (r5<0))] 369 ?_
   refine sq h (fun h=>?_) fun h=>?_
   ·refine cq 4 [4] [I (-1)] 385 ?_
    obtain rfl:=Option.some.inj h
    exact ai rfl (qp [I (-1)])
   ·refine aq 1 ?_
    refine cq 5 [4] [I r5] 401 ?_
    obtain rfl:=Option.some.inj h
    exact ai rfl (qp [I r5])
theorem P3 {G:Go.Ln.Ground}:aH Tryz.prog G 16 xN:=gT 2 0 (aD E1 (aD PW (aD Mb bf))) (Checked.mixed Tryz.checked) Tryz.func16 (fun a r h=>Rm a.1 a.2 r h)
def Bq:(List ah)→List V:=oA (ee str)
def A5 (r:(List ah)):V×List V:=(.usl 1 (r.map str),[])
noncomputable def rQ:Ent:=aP [false] Bq A5 fun x=>tZ x
theorem Mx {a_1:List ah}{r}(h:tZ a_1=some r):rQ.F (Bq a_1)=some (A5 r):=aA (aB (bw bm)) h
noncomputable def NY:Code:=ay Tryz.f62
noncomputable def GG:Env:=bC Tryz.prog []
def NF (x:(List ah))(r:(List ah)):St→Prop:=QF GG Tryz.f62 [false] (Bq x) (A5 r)
theorem JI (a_1:List ah):b9 GG 0 (NF a_1) (cL (cL (cR (cL (cR (cR NY)))))) 0 (re a_1) (fun u=>(sT 22 [(3,.hs 1 0 [] 1 0 (u.map str).length)] [⟨0,1,u.map str⟩] 2)) fun x3=>(sT 22 [(0,.isl false (a_1.map str)),(3,.hs 1 0 [] 1 0 (x3.2.map str).length),(4,I x3.1)] [⟨0,1,x3.2.map str⟩] 2):=dM (vF a_1) fun {Q K} hK self ih x3 y h hr hn=>by
 unfold kW at h
 refine cq 5 [8,9] [I x3.1,.isl false (a_1.map str)] 34 ?_
 refine oq 50 (I (len a_1)) rfl (aW rfl rfl rfl (bb rfl)) ?_
 refine cq 2 [11] [B (decide (x3.1<(len a_1)))] 66 ?_
 refine sq h (fun h=>?_) fun h=>?_
 ·refine aq 1 ?_
  refine cq 7 [14,15,16,17] [.hs 1 0 [] 1 0 (x3.2.map str).length,I x3.1,.isl false (a_1.map str),I x3.1] 130 ?_
  obtain⟨e4,he4,h⟩:=bS h
  refine oq 146 (.iptr (str e4) 0) rfl (an rfl rfl rfl (aM rfl rfl rfl rfl he4)) ?_
  refine cq 1 [19] [str e4] 162 ?_
  obtain⟨e5,he5,h⟩:=bS h
  refine oq 178 (.hp 1 0 [] 1 (0+Int.toNat x3.1) 0) rfl (an rfl rfl rfl (gV (f:=str) (xs:=x3.2) rfl rfl rfl he5)) ?_
  refine o0 194 rfl rfl (gf rfl rfl (eP (path:=[]) (pl:=true) (e':=str e4) (es2':=(ey x3.2 x3.1 e4).map str) rfl (eH rfl) rfl rfl rfl bd (fP (f:=str) (xs:=x3.2) he5) rfl rfl rfl (lf (f:=str) (xs:=x3.2) (y:=e4)) dU 0 rfl)) ?_
  try rw[←je (f:=str) (xs:=x3.2) (i:=x3.1) (z:=e4)]
  refine cq 7 [4] [I (ar (x3.1+1))] 242 ?_
  refine cE ?_
  exact rf [0,3,4] [1] (ih _ _ h hr hn :)
 ·refine aq 1 ?_
  exact rf [3] [1] (hn _ (Option.some.inj h).symm :) (hk:=hK)
theorem SD (a_1:List ah)(r:(List ah))(h:tZ a_1=some r):bc GG Tryz.f62 [false] 0 (Bq a_1) (A5 r):=by
 show Run _ _ (NF a_1 r) [.code NY] _
 refine rI 22 [(0,.isl false (a_1.map str))] [] 1 ?_
 unfold tZ at h
 refine cq 7 [5] [.isl false (a_1.map str)] 33 ?_
 refine oq 49 (I (len a_1)) rfl (aW rfl rfl rfl (bb rfl)) ?_
 obtain⟨m2,hm2,h⟩:=bS h
 refine oq 65 (.hs 49 0 [] 1 0 (m2.map str).length) rfl (iG rfl rfl (AD (f:=str) rfl rfl rfl (by decide) hm2 rfl)) ?_
 refine cq 8 [3,4] [.hs 49 0 [] 1 0 (m2.map str).length,I (0)] 97 ?_
 obtain⟨y6,hy6,hy61,hy62⟩:=bJ h
 refine bD rfl ?_
 refine rf [0,3,4] [49] (JI a_1 rfl (0,m2) _ hy6 (fun r' e st hq=>by rw[hy61 r' e] at hq;exact hq) fun u6 hu=>?_)
 replace h:=hy62 u6 hu
 refine cq 5 [2] [.hs 1 0 [] 1 0 (u6.map str).length] 34 ?_
 obtain rfl:=Option.some.inj h
 exact ai rfl ⟨_,fin (vs:=[.hs 1 0 [] 1 0 (u6.map str).length]) rfl (fF (fk rfl (cN rfl rfl)) et) rfl (eZ fM),fC⟩
theorem E4 {G:Go.Ln.Ground}:aH Tryz.prog G 62 rQ:=gT 1 0 bf (Checked.mixed Tryz.checked) Tryz.func62 (fun a r h=>SD a r h)
def tf:Condition→List V:=oA aU
def ul (r:Condition):V×List V:=(.agg [I r.Op,str r.Name,I r.Day,.usl 4 (r.Parts.map ap)],[])
noncomputable def pt (slf_Ffbx:Condition→Option Condition):Ent:=aP [false] tf ul slf_Ffbx
theorem Kl (slf_Ffbx:Condition→Option Condition){x}{r}(h:slf_Ffbx x=some r):(pt slf_Ffbx).F (tf x)=some (ul r):=aA (aB cf) h
def Cn:(List Condition)→List V:=oA (ee ac)
def A3 (r:(List Condition)):V×List V:=(.usl 4 (r.map ap),[])
noncomputable def yd (slf_Ffbx:Condition→Option Condition):Ent:=aP [false] Cn A3 fun x=>uC slf_Ffbx x
theorem Vg (slf_Ffbx:Condition→Option Condition){a_1:List Condition}{r}(h:uC slf_Ffbx a_1=some r):(yd slf_Ffbx).F (Cn a_1)=some (A3 r):=aA (aB (bw dW)) h
noncomputable def Nv:Code:=ay Tryz.f216
noncomputable def IJ (slf_Ffbx:Condition→Option Condition):Env:=bC Tryz.prog [(183,(pt slf_Ffbx))]
def NQ (slf_Ffbx:Condition→Option Condition)(x:(List Condition))(r:(List Condition)):St→Prop:=QF (IJ slf_Ffbx) Tryz.f216 [false] (Cn x) (A3 r)
theorem Jg (slf_Ffbx:Condition→Option Condition)(a_1:List Condition):b9 (IJ slf_Ffbx) 0 (NQ slf_Ffbx a_1) (cL (cL (cR (cL (cR (cR Nv)))))) 0 (nY slf_Ffbx a_1) (fun u=>(sT 23 [(3,.hs 1 0 [] 4 0 (u.map ap).length)] [⟨0,4,u.map ap⟩] 2)) fun x3=>(sT 23 [(0,.isl false (a_1.map ac)),(3,.hs 1 0 [] 4 0 (x3.2.map ap).length),(4,I x3.1)] [⟨0,4,x3.2.map ap⟩] 2):=dM (vZ slf_Ffbx a_1) fun {Q K} hK self ih x3 y h hr hn=>by
 unfold jp at h
 refine cq 5 [8,9] [I x3.1,.isl false (a_1.map ac)] 34 ?_
 refine oq 50 (I (len a_1)) rfl (aW rfl rfl rfl (bb rfl)) ?_
 refine cq 2 [11] [B (decide (x3.1<(len a_1)))] 66 ?_
 refine sq h (fun h=>?_) fun h=>?_
 ·refine aq 1 ?_
  refine cq 7 [14,15,16,17] [.hs 1 0 [] 4 0 (x3.2.map ap).length,I x3.1,.isl false (a_1.map ac),I x3.1] 130 ?_
  obtain⟨e4,he4,h⟩:=bS h
  refine oq 146 (.iptr (aU e4) 0) rfl (an rfl rfl rfl (aM rfl rfl (ce e4) rfl he4)) ?_
  refine cq 1 [19] [aU e4] 162 ?_
  obtain⟨r5,hr5,h⟩:=bS h
  refine oq 178 (.agg [I r5.Op,str r5.Name,I r5.Day,.hs 162 0 [] 4 0 (r5.Parts.map ap).length]) rfl (co rfl rfl (cM rfl rfl rfl (ca (cT rfl) dD) (Kl slf_Ffbx hr5) (.inr rfl) ec rfl rfl rfl)) ?_
  obtain⟨e6,he6,h⟩:=bS h
  refine oq 194 (.hp 1 0 [] 4 (0+Int.toNat x3.1) 0) rfl (an rfl rfl rfl (gV (f:=ap) (xs:=x3.2) rfl rfl rfl he6)) ?_
  refine o0 210 rfl rfl (gf rfl rfl (eP (path:=[]) (pl:=false) (e':=.agg [I r5.Op,str r5.Name,I r5.Day,.usl 4 (r5.Parts.map ap)]) (es2':=(ey x3.2 x3.1 r5).map ap) rfl (mt (bN (cb rfl) (bN (cb rfl) (bN (cb rfl) (bN (cN rfl rfl) mz))))) rfl rfl rfl bd (Sa (f:=ap) (xs:=x3.2) (ka e6) he6) rfl rfl rfl (Qy (f:=ap) (xs:=x3.2) (ka r5)) dU 1 rfl)) ?_
  try rw[←je (f:=ap) (xs:=x3.2) (i:=x3.1) (z:=r5)]
  refine cq 7 [4] [I (ar (x3.1+1))] 258 ?_
  refine cE ?_
  exact rf [0,3,4] [1] (ih _ _ h hr hn :)
 ·refine aq 1 ?_
  exact rf [3] [1] (hn _ (Option.some.inj h).symm :) (hk:=hK)
theorem Qf (slf_Ffbx:Condition→Option Condition)(a_1:List Condition)(r:(List Condition))(h:uC slf_Ffbx a_1=some r):bc (IJ slf_Ffbx) Tryz.f216 [false] 0 (Cn a_1) (A3 r):=by
 show Run _ _ (NQ slf_Ffbx a_1 r) [.code Nv] _
 refine rI 23 [(0,.isl false (a_1.map ac))] [] 1 ?_
 unfold uC at h
 refine cq 7 [5] [.isl false (a_1.map ac)] 33 ?_
 refine oq 49 (I (len a_1)) rfl (aW rfl rfl rfl (bb rfl)) ?_
 obtain⟨m2,hm2,h⟩:=bS h
 refine oq 65 (.hs 49 0 [] 4 0 (m2.map ap).length) rfl (iG rfl rfl (Np (g:=ap) (f:=fun _=>(.agg [I (0),str ([]),I (0),.isl true []]:V)) (z0:=(Condition.mk 0 [] 0 [])) rfl rfl rfl (by decide) hm2 rfl)) ?_
 refine d9 49 (m2.map ap) rfl rfl (Gz hm2 ((ka _).symm▸fg (au (.refl _) (au (.refl _) (au (.refl _) (au (.nil _) dz)))))) ?_
 refine cq 8 [3,4] [.hs 49 0 [] 4 0 (m2.map ap).length,I (0)] 97 ?_
 obtain⟨y7,hy7,hy71,hy72⟩:=bJ h
 refine bD rfl ?_
 refine rf [0,3,4] [49] (Jg slf_Ffbx a_1 rfl (0,m2) _ hy7 (fun r' e st hq=>by rw[hy71 r' e] at hq;exact hq) fun u7 hu=>?_)
 replace h:=hy72 u7 hu
 refine cq 5 [2] [.hs 1 0 [] 4 0 (u7.map ap).length] 34 ?_
 obtain rfl:=Option.some.inj h
 exact ai rfl ⟨_,fin (vs:=[.hs 1 0 [] 4 0 (u7.map ap).length]) rfl (fF (fk rfl (cN rfl rfl)) et) rfl (eZ fM),fC⟩
theorem Nf {G:Go.Ln.Ground}(slf_Ffbx:Condition→Option Condition)(g_Ffbx:aH Tryz.prog G 183 (pt slf_Ffbx)):aH Tryz.prog G 216 (yd slf_Ffbx):=gT 1 0 (aD g_Ffbx bf) (Checked.mixed Tryz.checked) Tryz.func216 (fun a r h=>Qf slf_Ffbx a r h)
noncomputable def xa:Ent:=pt (aJ mR)
theorem Vb {a_1:Condition}{r}(h:yg a_1=some r):xa.F (tf a_1)=some (ul r):=Kl (aJ mR) h
noncomputable def Wm:Code:=ay Tryz.f183
noncomputable def Mv (slf_Ffbx:Condition→Option Condition):Env:=bC Tryz.prog [(216,(yd slf_Ffbx))]
def VY (slf_Ffbx:Condition→Option Condition)(x:Condition)(r:Condition):St→Prop:=QF (Mv slf_Ffbx) Tryz.f183 [false] (tf x) (ul r)
theorem Rh (slf_Ffbx:Condition→Option Condition)(a_1:Condition)(r:Condition)(h:qj slf_Ffbx a_1=some r):bc (Mv slf_Ffbx) Tryz.f183 [false] 0 (tf a_1) (ul r):=by
 show Run _ _ (VY slf_Ffbx a_1 r) [.code Wm] _
 refine rI 18 [(0,aU a_1)] [] 1 ?_
 unfold qj at h
 refine ck 4 [1,2] [] [1,17] [] [.hp 1 0 [] 4 0 0,.hp 17 0 [] 4 0 0] [some ⟨0,4,[aU a_1]⟩,some ⟨0,4,[.agg [I (0),str ([]),I (0),.isl true []]]⟩] 33 (by kernel_rfl) ?_
 refine d9 17 [.agg [I (0),str ([]),I (0),.usl 4 (([]).map ap)]] rfl rfl (au (fg (au (.refl _) (au (.refl _) (au (.refl _) (au (.nil _) dz))))) dz) ?_
 refine ck 4 [3] [] [33] [] [.hp 33 0 [] 4 0 0] [some ⟨0,4,[.agg [I (0),str ([]),I (0),.isl true []]]⟩] 49 (by kernel_rfl) ?_
 refine d9 33 [.agg [I (0),str ([]),I (0),.usl 4 (([]).map ap)]] rfl rfl (au (fg (au (.refl _) (au (.refl _) (au (.refl _) (au (.nil _) dz))))) dz) ?_
 refine ck 26 [14] [] [33] [] [.isl false (a_1.Parts.map ac)] [some ⟨1,4,[.agg [I a_1.Op,str a_1.Name,I a_1.Day,.usl 4 (([]).map ap)]]⟩] 273 (by kernel_rfl) ?_
 obtain⟨r2,hr2,h⟩:=bS h
 refine oq 289 (.hs 273 0 [] 4 0 (r2.map ap).length) rfl (co rfl rfl (cM rfl rfl rfl (ca (cT rfl) dD) (Vg slf_Ffbx hr2) (.inr rfl) ec rfl rfl rfl)) ?_
 refine cq 1 [16] [.hp 33 0 [] 4 0 3] 305 ?_
 refine o0 321 rfl rfl (gf rfl rfl (eP (path:=[]) (pl:=false) (e':=.agg [I a_1.Op,str a_1.Name,I a_1.Day,.usl 4 (r2.map ap)]) (es2':=[.agg [I a_1.Op,str a_1.Name,I a_1.Day,.usl 4 (r2.map ap)]]) rfl (fk rfl (cN rfl rfl)) rfl rfl rfl bd rfl rfl rfl rfl rfl dU 2 rfl)) ?_
 refine cq 4 [17] [.agg [I a_1.Op,str a_1.Name,I a_1.Day,.hs 33 2 [(0,3)] 4 0 (r2.map ap).length]] 337 ?_
 refine o0 353 rfl rfl (gf rfl rfl (eP (path:=[]) (pl:=false) (e':=.agg [I a_1.Op,str a_1.Name,I a_1.Day,.usl 4 (r2.map ap)]) (es2':=[.agg [I a_1.Op,str a_1.Name,I a_1.Day,.usl 4 (r2.map ap)]]) rfl (mt (bN (cb rfl) (bN (cb rfl) (bN (cb rfl) (bN (f7 (path:=[(0,3)]) rfl rfl (eE rfl rfl bd) rfl (lN (path:=[]) (i:=0) (k:=3) (e':=.agg [I a_1.Op,str a_1.Name,I a_1.Day,.dead]) (es2':=[.agg [I a_1.Op,str a_1.Name,I a_1.Day,.dead]]) bd rfl rfl rfl dU)) mz))))) rfl rfl rfl bd rfl rfl rfl rfl rfl dU 2 rfl)) ?_
 refine aq 1 ?_
 obtain rfl:=Option.some.inj h
 exact ai rfl ⟨_,fin (vs:=[.agg [I a_1.Op,str a_1.Name,I a_1.Day,.hs 17 2 [(0,3)] 4 0 (r2.map ap).length]]) (Ib (qP rfl rfl rfl) IK) (fF (mt (bN (cb rfl) (bN (cb rfl) (bN (cb rfl) (bN (f7 (path:=[(0,3)]) rfl rfl (eE rfl rfl bd) rfl (lN (path:=[]) (i:=0) (k:=3) (e':=.agg [I a_1.Op,str a_1.Name,I a_1.Day,.dead]) (es2':=[.agg [I a_1.Op,str a_1.Name,I a_1.Day,.dead]]) bd rfl rfl rfl dU)) mz))))) et) rfl (eZ fM),fC⟩
theorem M0 {G:Go.Ln.Ground}:aH Tryz.prog G 183 xa:=jy fun slf_Ffbx g_Ffbx=>gT 1 0 (aD (Nf slf_Ffbx g_Ffbx) bf) (Checked.mixed Tryz.checked) Tryz.func183 (fun a r h=>Rh slf_Ffbx a r h)
def Am:Clause→List V:=oA aa
def Cq (r:Clause):V×List V:=(.agg [str r.Id,I r.Kind,I r.Party,str r.Action,I r.Other,I r.Amount,I r.When.Op,str r.When.Name,I r.When.Day,.usl 4 (r.When.Parts.map ap),I r.Within,str r.Repair],[])
noncomputable def yX:Ent:=aP [false] Am Cq fun x=>tQ x
theorem Vr {a_1:Clause}{r}(h:tQ a_1=some r):yX.F (Am a_1)=some (Cq r):=aA (aB cp) h
noncomputable def Wh:Code:=ay Tryz.f121
noncomputable def M1:Env:=bC Tryz.prog [(183,xa)]
def W4 (x:Clause)(r:Clause):St→Prop:=QF M1 Tryz.f121 [false] (Am x) (Cq r)
theorem Rc (a_1:Clause)(r:Clause)(h:tQ a_1=some r):bc M1 Tryz.f121 [false] 0 (Am a_1) (Cq r):=by
 show Run _ _ (W4 a_1 r) [.code Wh] _
 refine rI 33 [(0,aa a_1)] [] 1 ?_
 unfold tQ at h
 refine ck 4 [1,2] [] [1,17] [] [.hp 1 0 [] 12 0 0,.hp 17 0 [] 12 0 0] [some ⟨0,12,[aa a_1]⟩,some ⟨0,12,[.agg [str ([]),I (0),I (0),str ([]),I (0),I (0),I (0),str ([]),I (0),.isl true [],I (0),str ([])]]⟩] 33 (by kernel_rfl) ?_
 refine d9 17 [.agg [str ([]),I (0),I (0),str ([]),I (0),I (0),I (0),str ([]),I (0),.usl 4 (([]).map ap),I (0),str ([])]] rfl rfl (au (fg (au (.refl _) (au (.refl _) (au (.refl _) (au (.refl _) (au (.refl _) (au (.refl _) (au (.refl _) (au (.refl _) (au (.refl _) (au (.nil _) (au (.refl _) (au (.refl _) dz))))))))))))) dz) ?_
 refine ck 4 [3] [] [33] [] [.hp 33 0 [] 12 0 0] [some ⟨0,12,[.agg [str ([]),I (0),I (0),str ([]),I (0),I (0),I (0),str ([]),I (0),.isl true [],I (0),str ([])]]⟩] 49 (by kernel_rfl) ?_
 refine d9 33 [.agg [str ([]),I (0),I (0),str ([]),I (0),I (0),I (0),str ([]),I (0),.usl 4 (([]).map ap),I (0),str ([])]] rfl rfl (au (fg (au (.refl _) (au (.refl _) (au (.refl _) (au (.refl _) (au (.refl _) (au (.refl _) (au (.refl _) (au (.refl _) (au (.refl _) (au (.nil _) (au (.refl _) (au (.refl _) dz))))))))))))) dz) ?_
 refine ck 47 [23] [] [33] [] [aU a_1.When] [some ⟨1,12,[.agg [str a_1.Id,I a_1.Kind,I a_1.Party,str a_1.Action,I a_1.Other,I a_1.Amount,I (0),str ([]),I (0),.usl 4 (([]).map ap),I (0),str ([])]]⟩] 465 (by kernel_rfl) ?_
 obtain⟨r2,hr2,h⟩:=bS h
 refine oq 481 (.agg [I r2.Op,str r2.Name,I r2.Day,.hs 465 0 [] 4 0 (r2.Parts.map ap).length]) rfl (cP (Vb hr2)) ?_
 refine cq 1 [25] [.hp 33 0 [] 12 0 6] 497 ?_
 refine o0 513 rfl rfl (gf rfl rfl (eP (path:=[]) (pl:=false) (e':=.agg [str a_1.Id,I a_1.Kind,I a_1.Party,str a_1.Action,I a_1.Other,I a_1.Amount,I r2.Op,str r2.Name,I r2.Day,.usl 4 (r2.Parts.map ap),I (0),str ([])]) (es2':=[.agg [str a_1.Id,I a_1.Kind,I a_1.Party,str a_1.Action,I a_1.Other,I a_1.Amount,I r2.Op,str r2.Name,I r2.Day,.usl 4 (r2.Parts.map ap),I (0),str ([])]]) rfl (mt (bN (cb rfl) (bN (cb rfl) (bN (cb rfl) (bN (cN rfl rfl) mz))))) rfl rfl rfl bd rfl rfl rfl rfl rfl dU 2 rfl)) ?_
 refine ck 18 [32] [] [33] [] [.agg [str a_1.Id,I a_1.Kind,I a_1.Party,str a_1.Action,I a_1.Other,I a_1.Amount,I r2.Op,str r2.Name,I r2.Day,.hs 33 2 [(0,9)] 4 0 (r2.Parts.map ap).length,I a_1.Within,str a_1.Repair]] [some ⟨2,12,[.agg [str a_1.Id,I a_1.Kind,I a_1.Party,str a_1.Action,I a_1.Other,I a_1.Amount,I r2.Op,str r2.Name,I r2.Day,.usl 4 (r2.Parts.map ap),I a_1.Within,str a_1.Repair]]⟩] 657 (by kernel_rfl) ?_
 refine o0 673 rfl rfl (gf rfl rfl (eP (path:=[]) (pl:=false) (e':=.agg [str a_1.Id,I a_1.Kind,I a_1.Party,str a_1.Action,I a_1.Other,I a_1.Amount,I r2.Op,str r2.Name,I r2.Day,.usl 4 (r2.Parts.map ap),I a_1.Within,str a_1.Repair]) (es2':=[.agg [str a_1.Id,I a_1.Kind,I a_1.Party,str a_1.Action,I a_1.Other,I a_1.Amount,I r2.Op,str r2.Name,I r2.Day,.usl 4 (r2.Parts.map ap),I a_1.Within,str a_1.Repair]]) rfl (mt (bN (cb rfl) (bN (cb rfl) (bN (cb rfl) (bN (cb rfl) (bN (cb rfl) (bN (cb rfl) (bN (cb rfl) (bN (cb rfl) (bN (cb rfl) (bN (f7 (path:=[(0,9)]) rfl rfl (eE rfl rfl bd) rfl (lN (path:=[]) (i:=0) (k:=9) (e':=.agg [str a_1.Id,I a_1.Kind,I a_1.Party,str a_1.Action,I a_1.Other,I a_1.Amount,I r2.Op,str r2.Name,I r2.Day,.dead,I a_1.Within,str a_1.Repair]) (es2':=[.agg [str a_1.Id,I a_1.Kind,I a_1.Party,str a_1.Action,I a_1.Other,I a_1.Amount,I r2.Op,str r2.Name,I r2.Day,.dead,I a_1.Within,str a_1.Repair]]) bd rfl rfl rfl dU)) (bN (cb rfl) (bN (cb rfl) mz))))))))))))) rfl rfl rfl bd rfl rfl rfl rfl rfl dU 2 rfl)) ?_
 refine aq 1 ?_
 obtain rfl:=Option.some.inj h
 exact ai rfl ⟨_,fin (vs:=[.agg [str a_1.Id,I a_1.Kind,I a_1.Party,str a_1.Action,I a_1.Other,I a_1.Amount,I r2.Op,str r2.Name,I r2.Day,.hs 17 2 [(0,9)] 4 0 (r2.Parts.map ap).length,I a_1.Within,str a_1.Repair]]) (Ib (qP rfl rfl rfl) IK) (fF (mt (bN (cb rfl) (bN (cb rfl) (bN (cb rfl) (bN (cb rfl) (bN (cb rfl) (bN (cb rfl) (bN (cb rfl) (bN (cb rfl) (bN (cb rfl) (bN (f7 (path:=[(0,9)]) rfl rfl (eE rfl rfl bd) rfl (lN (path:=[]) (i:=0) (k:=9) (e':=.agg [str a_1.Id,I a_1.Kind,I a_1.Party,str a_1.Action,I a_1.Other,I a_1.Amount,I r2.Op,str r2.Name,I r2.Day,.dead,I a_1.Within,str a_1.Repair]) (es2':=[.agg [str a_1.Id,I a_1.Kind,I a_1.Party,str a_1.Action,I a_1.Other,I a_1.Amount,I r2.Op,str r2.Name,I r2.Day,.dead,I a_1.Within,str a_1.Repair]]) bd rfl rfl rfl dU)) (bN (cb rfl) (bN (cb rfl) mz))))))))))))) et) rfl (eZ fM),fC⟩
theorem O0 {G:Go.Ln.Ground}:aH Tryz.prog G 121 yX:=gT 1 0 (aD M0 bf) (Checked.mixed Tryz.checked) Tryz.func121 (fun a r h=>Rc a r h)
def AQ:(List Clause)→List V:=oA (ee aa)
def A7 (r:(List Clause)):V×List V:=(.usl 12 (r.map aE),[])
noncomputable def yS:Ent:=aP [false] AQ A7 fun x=>xe x
theorem Vc {a_1:List Clause}{r}(h:xe a_1=some r):yS.F (AQ a_1)=some (A7 r):=aA (aB (bw cp)) h
noncomputable def NX:Code:=ay Tryz.f63
noncomputable def Hq:Env:=bC Tryz.prog [(121,yX)]
def N3 (x:(List Clause))(r:(List Clause)):St→Prop:=QF Hq Tryz.f63 [false] (AQ x) (A7 r)
theorem IZ (a_1:List Clause):b9 Hq 0 (N3 a_1) (cL (cL (cR (cL (cR (cR NX)))))) 0 (qD a_1) (fun u=>(sT 23 [(3,.hs 1 0 [] 12 0 (u.map aE).length)] [⟨0,12,u.map aE⟩] 2)) fun x3=>(sT 23 [(0,.isl false (a_1.map aa)),(3,.hs 1 0 [] 12 0 (x3.2.map aE).length),(4,I x3.1)] [⟨0,12,x3.2.map aE⟩] 2):=dM (wl a_1) fun {Q K} hK self ih x3 y h hr hn=>by
 unfold kN at h
 refine cq 5 [8,9] [I x3.1,.isl false (a_1.map aa)] 34 ?_
 refine oq 50 (I (len a_1)) rfl (aW rfl rfl rfl (bb rfl)) ?_
 refine cq 2 [11] [B (decide (x3.1<(len a_1)))] 66 ?_
 refine sq h (fun h=>?_) fun h=>?_
 ·refine aq 1 ?_
  refine cq 7 [14,15,16,17] [.hs 1 0 [] 12 0 (x3.2.map aE).length,I x3.1,.isl false (a_1.map aa),I x3.1] 130 ?_
  obtain⟨e4,he4,h⟩:=bS h
  refine oq 146 (.iptr (aa e4) 0) rfl (an rfl rfl rfl (aM rfl rfl rfl rfl he4)) ?_
  refine cq 1 [19] [aa e4] 162 ?_
  obtain⟨r5,hr5,h⟩:=bS h
  refine oq 178 (.agg [str r5.Id,I r5.Kind,I r5.Party,str r5.Action,I r5.Other,I r5.Amount,I r5.When.Op,str r5.When.Name,I r5.When.Day,.hs 162 0 [] 4 0 (r5.When.Parts.map ap).length,I r5.Within,str r5.Repair]) rfl (cP (Vr hr5)) ?_
  obtain⟨e6,he6,h⟩:=bS h
  refine oq 194 (.hp 1 0 [] 12 (0+Int.toNat x3.1) 0) rfl (an rfl rfl rfl (gV (f:=aE) (xs:=x3.2) rfl rfl rfl he6)) ?_
  refine o0 210 rfl rfl (gf rfl rfl (eP (path:=[]) (pl:=false) (e':=.agg [str r5.Id,I r5.Kind,I r5.Party,str r5.Action,I r5.Other,I r5.Amount,I r5.When.Op,str r5.When.Name,I r5.When.Day,.usl 4 (r5.When.Parts.map ap),I r5.Within,str r5.Repair]) (es2':=(ey x3.2 x3.1 r5).map aE) rfl (mt (bN (cb rfl) (bN (cb rfl) (bN (cb rfl) (bN (cb rfl) (bN (cb rfl) (bN (cb rfl) (bN (cb rfl) (bN (cb rfl) (bN (cb rfl) (bN (cN rfl rfl) (bN (cb rfl) (bN (cb rfl) mz))))))))))))) rfl rfl rfl bd (fP (f:=aE) (xs:=x3.2) he6) rfl rfl rfl (lf (f:=aE) (xs:=x3.2) (y:=r5)) dU 1 rfl)) ?_
  try rw[←je (f:=aE) (xs:=x3.2) (i:=x3.1) (z:=r5)]
  refine cq 7 [4] [I (ar (x3.1+1))] 258 ?_
  refine cE ?_
  exact rf [0,3,4] [1] (ih _ _ h hr hn :)
 ·refine aq 1 ?_
  exact rf [3] [1] (hn _ (Option.some.inj h).symm :) (hk:=hK)
theorem Sr (a_1:List Clause)(r:(List Clause))(h:xe a_1=some r):bc Hq Tryz.f63 [false] 0 (AQ a_1) (A7 r):=by
 show Run _ _ (N3 a_1 r) [.code NX] _
 refine rI 23 [(0,.isl false (a_1.map aa))] [] 1 ?_
 unfold xe at h
 refine cq 7 [5] [.isl false (a_1.map aa)] 33 ?_
 refine oq 49 (I (len a_1)) rfl (aW rfl rfl rfl (bb rfl)) ?_
 obtain⟨m2,hm2,h⟩:=bS h
 refine oq 65 (.hs 49 0 [] 12 0 (m2.map aE).length) rfl (iG rfl rfl (Np (g:=aE) (f:=fun _=>(.agg [str ([]),I (0),I (0),str ([]),I (0),I (0),I (0),str ([]),I (0),.isl true [],I (0),str ([])]:V)) (z0:=(Clause.mk [] 0 0 [] 0 0 (Condition.mk 0 [] 0 []) 0 [])) rfl rfl rfl (by decide) hm2 rfl)) ?_
 refine d9 49 (m2.map aE) rfl rfl (Gz hm2 (fg (au (.refl _) (au (.refl _) (au (.refl _) (au (.refl _) (au (.refl _) (au (.refl _) (au (.refl _) (au (.refl _) (au (.refl _) (au (.nil _) (au (.refl _) (au (.refl _) dz)))))))))))))) ?_
 refine cq 8 [3,4] [.hs 49 0 [] 12 0 (m2.map aE).length,I (0)] 97 ?_
 obtain⟨y7,hy7,hy71,hy72⟩:=bJ h
 refine bD rfl ?_
 refine rf [0,3,4] [49] (IZ a_1 rfl (0,m2) _ hy7 (fun r' e st hq=>by rw[hy71 r' e] at hq;exact hq) fun u7 hu=>?_)
 replace h:=hy72 u7 hu
 refine cq 5 [2] [.hs 1 0 [] 12 0 (u7.map aE).length] 34 ?_
 obtain rfl:=Option.some.inj h
 exact ai rfl ⟨_,fin (vs:=[.hs 1 0 [] 12 0 (u7.map aE).length]) rfl (fF (fk rfl (cN rfl rfl)) et) rfl (eZ fM),fC⟩
theorem MQ {G:Go.Ln.Ground}:aH Tryz.prog G 63 yS:=gT 1 0 (aD O0 bf) (Checked.mixed Tryz.checked) Tryz.func63 (fun a r h=>Sr a r h)
def C0:Contract→List V:=oA aG
def zz (r:Contract):V×List V:=(.agg [.usl 1 (r.Parties.map str),.usl 12 (r.Clauses.map aE)],[])
noncomputable def yF:Ent:=aP [false] C0 zz fun x=>sk x
theorem tX {a_1:Contract}{r}(h:sk a_1=some r):yF.F (C0 a_1)=some (zz r):=aA (aB aQ) h
noncomputable def Wj:Code:=ay Tryz.f18
noncomputable def N8:Env:=bC Tryz.prog [(62,rQ),(63,yS)]
def WB (x:Contract)(r:Contract):St→Prop:=QF N8 Tryz.f18 [false] (C0 x) (zz r)
theorem Sd (a_1:Contract)(r:Contract)(h:sk a_1=some r):bc N8 Tryz.f18 [false] 0 (C0 a_1) (zz r):=by
 show Run _ _ (WB a_1 r) [.code Wj] _
 refine rI 13 [(0,aG a_1)] [] 1 ?_
 unfold sk at h
 refine ck 4 [1,2] [] [1,17] [] [.hp 1 0 [] 2 0 0,.hp 17 0 [] 2 0 0] [some ⟨0,2,[aG a_1]⟩,some ⟨0,2,[.agg [.isl true [],.isl true []]]⟩] 33 (by kernel_rfl) ?_
 refine d9 17 [.agg [.usl 1 (([]).map str),.usl 12 (([]).map aE)]] rfl rfl (au (fg (au (.nil _) (au (.nil _) dz))) dz) ?_
 refine ck 4 [3] [] [33] [] [.hp 33 0 [] 2 0 0] [some ⟨0,2,[.agg [.isl true [],.isl true []]]⟩] 49 (by kernel_rfl) ?_
 refine d9 33 [.agg [.usl 1 (([]).map str),.usl 12 (([]).map aE)]] rfl rfl (au (fg (au (.nil _) (au (.nil _) dz))) dz) ?_
 refine cq 5 [5] [.isl false (a_1.Parties.map str)] 81 ?_
 obtain⟨r2,hr2,h⟩:=bS h
 refine oq 97 (.hs 81 0 [] 1 0 (r2.map str).length) rfl (cP (Mx hr2)) ?_
 refine cq 1 [7] [.hp 33 0 [] 2 0 0] 113 ?_
 refine o0 129 rfl rfl (gf rfl rfl (eP (path:=[]) (pl:=false) (e':=.agg [.usl 1 (r2.map str),.usl 12 (([]).map aE)]) (es2':=[.agg [.usl 1 (r2.map str),.usl 12 (([]).map aE)]]) rfl (fk rfl (cN rfl rfl)) rfl rfl rfl bd rfl rfl rfl rfl rfl dU 2 rfl)) ?_
 refine cq 5 [9] [.isl false (a_1.Clauses.map aa)] 161 ?_
 obtain⟨r3,hr3,h⟩:=bS h
 refine oq 177 (.hs 161 0 [] 12 0 (r3.map aE).length) rfl (cP (Vc hr3)) ?_
 refine cq 1 [11] [.hp 33 0 [] 2 0 1] 193 ?_
 refine o0 209 rfl rfl (gf rfl rfl (eP (path:=[]) (pl:=false) (e':=.agg [.usl 1 (r2.map str),.usl 12 (r3.map aE)]) (es2':=[.agg [.usl 1 (r2.map str),.usl 12 (r3.map aE)]]) rfl (fk rfl (cN rfl rfl)) rfl rfl rfl bd rfl rfl rfl rfl rfl dU 3 rfl)) ?_
 refine cq 4 [12] [.agg [.hs 33 3 [(0,0)] 1 0 (r2.map str).length,.hs 33 3 [(0,1)] 12 0 (r3.map aE).length]] 225 ?_
 refine o0 241 rfl rfl (gf rfl rfl (eP (path:=[]) (pl:=false) (e':=.agg [.usl 1 (r2.map str),.usl 12 (r3.map aE)]) (es2':=[.agg [.usl 1 (r2.map str),.usl 12 (r3.map aE)]]) rfl (mt (bN (f7 (path:=[(0,0)]) rfl rfl (eE rfl rfl bd) rfl (lN (path:=[]) (i:=0) (k:=0) (e':=.agg [.dead,.usl 12 (r3.map aE)]) (es2':=[.agg [.dead,.usl 12 (r3.map aE)]]) bd rfl rfl rfl dU)) (bN (f7 (path:=[(0,1)]) rfl rfl (eE rfl rfl bd) rfl (lN (path:=[]) (i:=0) (k:=1) (e':=.agg [.dead,.dead]) (es2':=[.agg [.dead,.dead]]) bd rfl rfl rfl dU)) mz))) rfl rfl rfl bd rfl rfl rfl rfl rfl dU 2 rfl)) ?_
 refine aq 1 ?_
 obtain rfl:=Option.some.inj h
 exact ai rfl ⟨_,fin (vs:=[.agg [.hs 17 2 [(0,0)] 1 0 (r2.map str).length,.hs 17 2 [(0,1)] 12 0 (r3.map aE).length]]) (Ib (qP rfl rfl rfl) IK) (fF (mt (bN (f7 (path:=[(0,0)]) rfl rfl (eE rfl rfl bd) rfl (lN (path:=[]) (i:=0) (k:=0) (e':=.agg [.dead,.usl 12 (r3.map aE)]) (es2':=[.agg [.dead,.usl 12 (r3.map aE)]]) bd rfl rfl rfl dU)) (bN (f7 (path:=[(0,1)]) rfl rfl (eE rfl rfl bd) rfl (lN (path:=[]) (i:=0) (k:=1) (e':=.agg [.dead,.dead]) (es2':=[.agg [.dead,.dead]]) bd rfl rfl rfl dU)) mz))) et) rfl (eZ fM),fC⟩
theorem NW {G:Go.Ln.Ground}:aH Tryz.prog G 18 yF:=gT 1 0 (aD E4 (aD MQ bf)) (Checked.mixed Tryz.checked) Tryz.func18 (fun a r h=>Sd a r h)
def CG:Duty→List V:=oA ae
def AF (r:Duty):V×List V:=(ae r,[])
noncomputable def yA:Ent:=aP [false] CG AF fun x=>uO x
theorem V5 {a_1:Duty}{r}(h:uO a_1=some r):yA.F (CG a_1)=some (AF r):=aA (aB cy) h
noncomputable def VT:Code:=ay Tryz.f122
noncomputable def Ml:Env:=bC Tryz.prog []
def WU (x:Duty)(r:Duty):St→Prop:=QF Ml Tryz.f122 [false] (CG x) (AF r)
theorem R4 (a_1:Duty)(r:Duty)(h:uO a_1=some r):bc Ml Tryz.f122 [false] 0 (CG a_1) (AF r):=by
 show Run _ _ (WU a_1 r) [.code VT] _
 refine rI 17 [(0,ae a_1)] [] 1 ?_
 unfold uO at h
 refine ck 42 [2] [] [17] [] [.hp 17 0 [] 4 0 0] [some ⟨0,4,[ae a_1]⟩] 337 (by kernel_rfl) ?_
 obtain rfl:=Option.some.inj h
 exact ai rfl ⟨_,fin (vs:=[ae a_1]) (Ib (qP rfl rfl rfl) IK) (fF (eH rfl) et) rfl (eZ fM),fC⟩
theorem N1 {G:Go.Ln.Ground}:aH Tryz.prog G 122 yA:=gT 1 0 bf (Checked.mixed Tryz.checked) Tryz.func122 (fun a r h=>R4 a r h)
def Ca:(List Duty)→List V:=oA (ee ae)
def A9 (r:(List Duty)):V×List V:=(.usl 4 (r.map ae),[])
noncomputable def xU:Ent:=aP [false] Ca A9 fun x=>yy x
theorem VJ {a_1:List Duty}{r}(h:yy a_1=some r):xU.F (Ca a_1)=some (A9 r):=aA (aB (bw cy)) h
noncomputable def Nr:Code:=ay Tryz.f64
noncomputable def H7:Env:=bC Tryz.prog [(122,yA)]
def Pn (x:(List Duty))(r:(List Duty)):St→Prop:=QF H7 Tryz.f64 [false] (Ca x) (A9 r)
theorem JD (a_1:List Duty):b9 H7 0 (Pn a_1) (cL (cL (cR (cL (cR (cR Nr)))))) 0 (pZ a_1) (fun u=>(sT 23 [(3,.hs 1 0 [] 4 0 (u.map ae).length)] [⟨0,4,u.map ae⟩] 2)) fun x3=>(sT 23 [(0,.isl false (a_1.map ae)),(3,.hs 1 0 [] 4 0 (x3.2.map ae).length),(4,I x3.1)] [⟨0,4,x3.2.map ae⟩] 2):=dM (wF a_1) fun {Q K} hK self ih x3 y h hr hn=>by
 unfold lh at h
 refine cq 5 [8,9] [I x3.1,.isl false (a_1.map ae)] 34 ?_
 refine oq 50 (I (len a_1)) rfl (aW rfl rfl rfl (bb rfl)) ?_
 refine cq 2 [11] [B (decide (x3.1<(len a_1)))] 66 ?_
 refine sq h (fun h=>?_) fun h=>?_
 ·refine aq 1 ?_
  refine cq 7 [14,15,16,17] [.hs 1 0 [] 4 0 (x3.2.map ae).length,I x3.1,.isl false (a_1.map ae),I x3.1] 130 ?_
  obtain⟨e4,he4,h⟩:=bS h
  refine oq 146 (.iptr (ae e4) 0) rfl (an rfl rfl rfl (aM rfl rfl rfl rfl he4)) ?_
  refine cq 1 [19] [ae e4] 162 ?_
  obtain⟨r5,hr5,h⟩:=bS h
  refine oq 178 (ae r5) rfl (cP (V5 hr5)) ?_
  obtain⟨e6,he6,h⟩:=bS h
  refine oq 194 (.hp 1 0 [] 4 (0+Int.toNat x3.1) 0) rfl (an rfl rfl rfl (gV (f:=ae) (xs:=x3.2) rfl rfl rfl he6)) ?_
  refine o0 210 rfl rfl (gf rfl rfl (eP (path:=[]) (pl:=true) (e':=ae r5) (es2':=(ey x3.2 x3.1 r5).map ae) rfl (eH rfl) rfl rfl rfl bd (fP (f:=ae) (xs:=x3.2) he6) rfl rfl rfl (lf (f:=ae) (xs:=x3.2) (y:=r5)) dU 0 rfl)) ?_
  try rw[←je (f:=ae) (xs:=x3.2) (i:=x3.1) (z:=r5)]
  refine cq 7 [4] [I (ar (x3.1+1))] 258 ?_
  refine cE ?_
  exact rf [0,3,4] [1] (ih _ _ h hr hn :)
 ·refine aq 1 ?_
  exact rf [3] [1] (hn _ (Option.some.inj h).symm :) (hk:=hK)
theorem QP (a_1:List Duty)(r:(List Duty))(h:yy a_1=some r):bc H7 Tryz.f64 [false] 0 (Ca a_1) (A9 r):=by
 show Run _ _ (Pn a_1 r) [.code Nr] _
 refine rI 23 [(0,.isl false (a_1.map ae))] [] 1 ?_
 unfold yy at h
 refine cq 7 [5] [.isl false (a_1.map ae)] 33 ?_
 refine oq 49 (I (len a_1)) rfl (aW rfl rfl rfl (bb rfl)) ?_
 obtain⟨m2,hm2,h⟩:=bS h
 refine oq 65 (.hs 49 0 [] 4 0 (m2.map ae).length) rfl (iG rfl rfl (AD (f:=ae) rfl rfl rfl (by decide) hm2 rfl)) ?_
 refine cq 8 [3,4] [.hs 49 0 [] 4 0 (m2.map ae).length,I (0)] 97 ?_
 obtain⟨y7,hy7,hy71,hy72⟩:=bJ h
 refine bD rfl ?_
 refine rf [0,3,4] [49] (JD a_1 rfl (0,m2) _ hy7 (fun r' e st hq=>by rw[hy71 r' e] at hq;exact hq) fun u7 hu=>?_)
 replace h:=hy72 u7 hu
 refine cq 5 [2] [.hs 1 0 [] 4 0 (u7.map ae).length] 34 ?_
 obtain rfl:=Option.some.inj h
 exact ai rfl ⟨_,fin (vs:=[.hs 1 0 [] 4 0 (u7.map ae).length]) rfl (fF (fk rfl (cN rfl rfl)) et) rfl (eZ fM),fC⟩
theorem Oo {G:Go.Ln.Ground}:aH Tryz.prog G 64 xU:=gT 1 0 (aD N1 bf) (Checked.mixed Tryz.checked) Tryz.func64 (fun a r h=>QP a r h)
def AV:(List Int)→List V:=oA (ee I)
def BD (r:(List Int)):V×List V:=(.usl 1 (r.map I),[])
noncomputable def zc:Ent:=aP [false] AV BD fun x=>xV x
theorem Vu {a_1:List Int}{r}(h:xV a_1=some r):zc.F (AV a_1)=some (BD r):=aA (aB (bw bO)) h
noncomputable def L9:Code:=ay Tryz.f26
noncomputable def G2:Env:=bC Tryz.prog []
def Nd (x:(List Int))(r:(List Int)):St→Prop:=QF G2 Tryz.f26 [false] (AV x) (BD r)
theorem JC (a_1:List Int):b9 G2 0 (Nd a_1) (cL (cL (cR (cL (cR (cR L9)))))) 0 (qa a_1) (fun u=>(sT 22 [(3,.hs 1 0 [] 1 0 (u.map I).length)] [⟨0,1,u.map I⟩] 2)) fun x3=>(sT 22 [(0,.isl false (a_1.map I)),(3,.hs 1 0 [] 1 0 (x3.2.map I).length),(4,I x3.1)] [⟨0,1,x3.2.map I⟩] 2):=dM (wt a_1) fun {Q K} hK self ih x3 y h hr hn=>by
 unfold lB at h
 refine cq 5 [8,9] [I x3.1,.isl false (a_1.map I)] 34 ?_
 refine oq 50 (I (len a_1)) rfl (aW rfl rfl rfl (bb rfl)) ?_
 refine cq 2 [11] [B (decide (x3.1<(len a_1)))] 66 ?_
 refine sq h (fun h=>?_) fun h=>?_
 ·refine aq 1 ?_
  refine cq 7 [14,15,16,17] [.hs 1 0 [] 1 0 (x3.2.map I).length,I x3.1,.isl false (a_1.map I),I x3.1] 130 ?_
  obtain⟨e4,he4,h⟩:=bS h
  refine oq 146 (.iptr (I e4) 0) rfl (an rfl rfl rfl (aM rfl rfl rfl rfl he4)) ?_
  refine cq 1 [19] [I e4] 162 ?_
  obtain⟨e5,he5,h⟩:=bS h
  refine oq 178 (.hp 1 0 [] 1 (0+Int.toNat x3.1) 0) rfl (an rfl rfl rfl (gV (f:=I) (xs:=x3.2) rfl rfl rfl he5)) ?_
  refine o0 194 rfl rfl (gf rfl rfl (eP (path:=[]) (pl:=true) (e':=I e4) (es2':=(ey x3.2 x3.1 e4).map I) rfl (eH rfl) rfl rfl rfl bd (fP (f:=I) (xs:=x3.2) he5) rfl rfl rfl (lf (f:=I) (xs:=x3.2) (y:=e4)) dU 0 rfl)) ?_
  try rw[←je (f:=I) (xs:=x3.2) (i:=x3.1) (z:=e4)]
  refine cq 7 [4] [I (ar (x3.1+1))] 242 ?_
  refine cE ?_
  exact rf [0,3,4] [1] (ih _ _ h hr hn :)
 ·refine aq 1 ?_
  exact rf [3] [1] (hn _ (Option.some.inj h).symm :) (hk:=hK)
theorem Qz (a_1:List Int)(r:(List Int))(h:xV a_1=some r):bc G2 Tryz.f26 [false] 0 (AV a_1) (BD r):=by
 show Run _ _ (Nd a_1 r) [.code L9] _
 refine rI 22 [(0,.isl false (a_1.map I))] [] 1 ?_
 unfold xV at h
 refine cq 7 [5] [.isl false (a_1.map I)] 33 ?_
 refine oq 49 (I (len a_1)) rfl (aW rfl rfl rfl (bb rfl)) ?_
 obtain⟨m2,hm2,h⟩:=bS h
 refine oq 65 (.hs 49 0 [] 1 0 (m2.map I).length) rfl (iG rfl rfl (AD (f:=I) rfl rfl rfl (by decide) hm2 rfl)) ?_
 refine cq 8 [3,4] [.hs 49 0 [] 1 0 (m2.map I).length,I (0)] 97 ?_
 obtain⟨y6,hy6,hy61,hy62⟩:=bJ h
 refine bD rfl ?_
 refine rf [0,3,4] [49] (JC a_1 rfl (0,m2) _ hy6 (fun r' e st hq=>by rw[hy61 r' e] at hq;exact hq) fun u6 hu=>?_)
 replace h:=hy62 u6 hu
 refine cq 5 [2] [.hs 1 0 [] 1 0 (u6.map I).length] 34 ?_
 obtain rfl:=Option.some.inj h
 exact ai rfl ⟨_,fin (vs:=[.hs 1 0 [] 1 0 (u6.map I).length]) rfl (fF (fk rfl (cN rfl rfl)) et) rfl (eZ fM),fC⟩
theorem Oy {G:Go.Ln.Ground}:aH Tryz.prog G 26 zc:=gT 1 0 bf (Checked.mixed Tryz.checked) Tryz.func26 (fun a r h=>Qz a r h)
def Bh:State→List V:=oA bH
def AP (r:State):V×List V:=(.agg [I r.Day,.usl 1 (r.Facts.map str),.usl 4 (r.Duties.map ae),.usl 1 (r.Balances.map I),B r.Over],[])
noncomputable def yh:Ent:=aP [false] Bh AP fun x=>sf x
theorem tH {a_1:State}{r}(h:sf a_1=some r):yh.F (Bh a_1)=some (AP r):=aA (aB cS) h
noncomputable def WE:Code:=ay Tryz.f19
noncomputable def Nw:Env:=bC Tryz.prog [(62,rQ),(64,xU),(26,zc)]
def U3 (x:State)(r:State):St→Prop:=QF Nw Tryz.f19 [false] (Bh x) (AP r)
theorem RM (a_1:State)(r:State)(h:sf a_1=some r):bc Nw Tryz.f19 [false] 0 (Bh a_1) (AP r):=by
 show Run _ _ (U3 a_1 r) [.code WE] _
 refine rI 23 [(0,bH a_1)] [] 1 ?_
 unfold sf at h
 refine ck 4 [1,2] [] [1,17] [] [.hp 1 0 [] 5 0 0,.hp 17 0 [] 5 0 0] [some ⟨0,5,[bH a_1]⟩,some ⟨0,5,[.agg [I (0),.isl true [],.isl true [],.isl true [],B false]]⟩] 33 (by kernel_rfl) ?_
 refine d9 17 [.agg [I (0),.usl 1 (([]).map str),.usl 4 (([]).map ae),.usl 1 (([]).map I),B false]] rfl rfl (au (fg (au (.refl _) (au (.nil _) (au (.nil _) (au (.nil _) (au (.refl _) dz)))))) dz) ?_
 refine ck 4 [3] [] [33] [] [.hp 33 0 [] 5 0 0] [some ⟨0,5,[.agg [I (0),.isl true [],.isl true [],.isl true [],B false]]⟩] 49 (by kernel_rfl) ?_
 refine d9 33 [.agg [I (0),.usl 1 (([]).map str),.usl 4 (([]).map ae),.usl 1 (([]).map I),B false]] rfl rfl (au (fg (au (.refl _) (au (.nil _) (au (.nil _) (au (.nil _) (au (.refl _) dz)))))) dz) ?_
 refine ck 12 [8] [] [33] [] [.isl false (a_1.Facts.map str)] [some ⟨1,5,[.agg [I a_1.Day,.usl 1 (([]).map str),.usl 4 (([]).map ae),.usl 1 (([]).map I),B false]]⟩] 145 (by kernel_rfl) ?_
 obtain⟨r2,hr2,h⟩:=bS h
 refine oq 161 (.hs 145 0 [] 1 0 (r2.map str).length) rfl (cP (Mx hr2)) ?_
 refine cq 1 [10] [.hp 33 0 [] 5 0 1] 177 ?_
 refine o0 193 rfl rfl (gf rfl rfl (eP (path:=[]) (pl:=false) (e':=.agg [I a_1.Day,.usl 1 (r2.map str),.usl 4 (([]).map ae),.usl 1 (([]).map I),B false]) (es2':=[.agg [I a_1.Day,.usl 1 (r2.map str),.usl 4 (([]).map ae),.usl 1 (([]).map I),B false]]) rfl (fk rfl (cN rfl rfl)) rfl rfl rfl bd rfl rfl rfl rfl rfl dU 2 rfl)) ?_
 refine cq 5 [12] [.isl false (a_1.Duties.map ae)] 225 ?_
 obtain⟨r3,hr3,h⟩:=bS h
 refine oq 241 (.hs 225 0 [] 4 0 (r3.map ae).length) rfl (cP (VJ hr3)) ?_
 refine cq 1 [14] [.hp 33 0 [] 5 0 2] 257 ?_
 refine o0 273 rfl rfl (gf rfl rfl (eP (path:=[]) (pl:=false) (e':=.agg [I a_1.Day,.usl 1 (r2.map str),.usl 4 (r3.map ae),.usl 1 (([]).map I),B false]) (es2':=[.agg [I a_1.Day,.usl 1 (r2.map str),.usl 4 (r3.map ae),.usl 1 (([]).map I),B false]]) rfl (fk rfl (cN rfl rfl)) rfl rfl rfl bd rfl rfl rfl rfl rfl dU 3 rfl)) ?_
 refine cq 5 [16] [.isl false (a_1.Balances.map I)] 305 ?_
 obtain⟨r4,hr4,h⟩:=bS h
 refine oq 321 (.hs 305 0 [] 1 0 (r4.map I).length) rfl (cP (Vu hr4)) ?_
 refine cq 1 [18] [.hp 33 0 [] 5 0 3] 337 ?_
 refine o0 353 rfl rfl (gf rfl rfl (eP (path:=[]) (pl:=false) (e':=.agg [I a_1.Day,.usl 1 (r2.map str),.usl 4 (r3.map ae),.usl 1 (r4.map I),B false]) (es2':=[.agg [I a_1.Day,.usl 1 (r2.map str),.usl 4 (r3.map ae),.usl 1 (r4.map I),B false]]) rfl (fk rfl (cN rfl rfl)) rfl rfl rfl bd rfl rfl rfl rfl rfl dU 4 rfl)) ?_
 refine ck 11 [22] [] [33] [] [.agg [I a_1.Day,.hs 33 4 [(0,1)] 1 0 (r2.map str).length,.hs 33 4 [(0,2)] 4 0 (r3.map ae).length,.hs 33 4 [(0,3)] 1 0 (r4.map I).length,B a_1.Over]] [some ⟨4,5,[.agg [I a_1.Day,.usl 1 (r2.map str),.usl 4 (r3.map ae),.usl 1 (r4.map I),B a_1.Over]]⟩] 433 (by kernel_rfl) ?_
 refine o0 449 rfl rfl (gf rfl rfl (eP (path:=[]) (pl:=false) (e':=.agg [I a_1.Day,.usl 1 (r2.map str),.usl 4 (r3.map ae),.usl 1 (r4.map I),B a_1.Over]) (es2':=[.agg [I a_1.Day,.usl 1 (r2.map str),.usl 4 (r3.map ae),.usl 1 (r4.map I),B a_1.Over]]) rfl (mt (bN (cb rfl) (bN (f7 (path:=[(0,1)]) rfl rfl (eE rfl rfl bd) rfl (lN (path:=[]) (i:=0) (k:=1) (e':=.agg [I a_1.Day,.dead,.usl 4 (r3.map ae),.usl 1 (r4.map I),B a_1.Over]) (es2':=[.agg [I a_1.Day,.dead,.usl 4 (r3.map ae),.usl 1 (r4.map I),B a_1.Over]]) bd rfl rfl rfl dU)) (bN (f7 (path:=[(0,2)]) rfl rfl (eE rfl rfl bd) rfl (lN (path:=[]) (i:=0) (k:=2) (e':=.agg [I a_1.Day,.dead,.dead,.usl 1 (r4.map I),B a_1.Over]) (es2':=[.agg [I a_1.Day,.dead,.dead,.usl 1 (r4.map I),B a_1.Over]]) bd rfl rfl rfl dU)) (bN (f7 (path:=[(0,3)]) rfl rfl (eE rfl rfl bd) rfl (lN (path:=[]) (i:=0) (k:=3) (e':=.agg [I a_1.Day,.dead,.dead,.dead,B a_1.Over]) (es2':=[.agg [I a_1.Day,.dead,.dead,.dead,B a_1.Over]]) bd rfl rfl rfl dU)) (bN (cb rfl) mz)))))) rfl rfl rfl bd rfl rfl rfl rfl rfl dU 2 rfl)) ?_
 refine aq 1 ?_
 obtain rfl:=Option.some.inj h
 exact ai rfl ⟨_,fin (vs:=[.agg [I a_1.Day,.hs 17 2 [(0,1)] 1 0 (r2.map str).length,.hs 17 2 [(0,2)] 4 0 (r3.map ae).length,.hs 17 2 [(0,3)] 1 0 (r4.map I).length,B a_1.Over]]) (Ib (qP rfl rfl rfl) IK) (fF (mt (bN (cb rfl) (bN (f7 (path:=[(0,1)]) rfl rfl (eE rfl rfl bd) rfl (lN (path:=[]) (i:=0) (k:=1) (e':=.agg [I a_1.Day,.dead,.usl 4 (r3.map ae),.usl 1 (r4.map I),B a_1.Over]) (es2':=[.agg [I a_1.Day,.dead,.usl 4 (r3.map ae),.usl 1 (r4.map I),B a_1.Over]]) bd rfl rfl rfl dU)) (bN (f7 (path:=[(0,2)]) rfl rfl (eE rfl rfl bd) rfl (lN (path:=[]) (i:=0) (k:=2) (e':=.agg [I a_1.Day,.dead,.dead,.usl 1 (r4.map I),B a_1.Over]) (es2':=[.agg [I a_1.Day,.dead,.dead,.usl 1 (r4.map I),B a_1.Over]]) bd rfl rfl rfl dU)) (bN (f7 (path:=[(0,3)]) rfl rfl (eE rfl rfl bd) rfl (lN (path:=[]) (i:=0) (k:=3) (e':=.agg [I a_1.Day,.dead,.dead,.dead,B a_1.Over]) (es2':=[.agg [I a_1.Day,.dead,.dead,.dead,B a_1.Over]]) bd rfl rfl rfl dU)) (bN (cb rfl) mz)))))) et) rfl (eZ fM),fC⟩
theorem Ps {G:Go.Ln.Ground}:aH Tryz.prog G 19 yh:=gT 1 0 (aD E4 (aD Oo (aD Oy bf))) (Checked.mixed Tryz.checked) Tryz.func19 (fun a r h=>RM a r h)
def mK:(Int×Int×Int)→List V:=cA I (cA I (oA I))
def mH (r:Bool):V×List V:=(B r,[])
noncomputable def ed:Ent:=aP [false,false,false] mK mH fun x=>cW x.1 x.2.1 x.2.2
theorem cY {x_1:Int}{a_2:Int}{b_3:Int}{r}(h:cW x_1 a_2 b_3=some r):ed.F (mK (x_1,a_2,b_3))=some (mH r):=aA (aY bO (aY bO (aB bO))) h
noncomputable def wK:Code:=ay Tryz.f73
noncomputable def pE:Env:=bC Tryz.prog []
def wI (x:Int×Int×Int)(r:Bool):St→Prop:=QF pE Tryz.f73 [false,false,false] (mK x) (mH r)
theorem Fl (x_1:Int)(a_2:Int)(b_3:Int)(r:Bool)(h:cW x_1 a_2 b_3=some r):bc pE Tryz.f73 [false,false,false] 0 (mK (x_1,a_2,b_3)) (mH r):=by
 show Run _ _ (wI (x_1,a_2,b_3) r) [.code wK] _
 refine rI 15 [(0,I x_1),(1,I a_2),(2,I b_3)] [] 1 ?_
 unfold cW at h
 refine cq 10 [10] [B (decide (x_1≥a_2))] 81 ?_
 obtain⟨u4,hu4,h⟩:=lJ h
 have j4:Run pE 0 (wI (x_1,a_2,b_3) r) (.code (cR (cR wK))::[]) (sT 15 [(6,B u4)] [] 1):=by
  obtain rfl:=Option.some.inj h
  exact ai rfl (qp [B u4])
 replace h:=hu4
 clear hu4
 refine sp 10 h rfl (fun h=>?_) fun h=>?_
 ·refine cq 6 [6] [B (decide (x_1≤b_3))] 161 ?_
  subst h
  exact rf [6] [] (j4 :)
 ·refine cq 6 [6] [B false] 161 ?_
  subst h
  exact rf [6] [] (j4 :)
theorem eU {G:Go.Ln.Ground}:aH Tryz.prog G 73 ed:=gT 3 0 bf (Checked.mixed Tryz.checked) Tryz.func73 (fun a r h=>Fl a.1 a.2.1 a.2.2 r h)
def Bd:Int→List V:=oA (V.int .u8)
def zY (r:Bool):V×List V:=(B r,[])
noncomputable def xK:Ent:=aP [false] Bd zY fun x=>uk x
theorem WF {b_1:Int}{r}(h:uk b_1=some r):xK.F (Bd b_1)=some (zY r):=aA (aB (GS (k:=.u8))) h
noncomputable def uF:Code:=ay Tryz.f200
noncomputable def rd:Env:=bC Tryz.prog []
def tw (x:Int)(r:Bool):St→Prop:=QF rd Tryz.f200 [false] (Bd x) (zY r)
theorem QE (b_1:Int)(r:Bool)(h:uk b_1=some r):bc rd Tryz.f200 [false] 0 (Bd b_1) (zY r):=by
 show Run _ _ (tw b_1 r) [.code uF] _
 refine rI 17 [(0,.int .u8 b_1)] [] 1 ?_
 unfold uk at h
 refine cq 9 [5] [B (decide (b_1≥97))] 65 ?_
 obtain⟨u2,hu2,h⟩:=lJ h
 have j2:Run rd 0 (tw b_1 r) (.code (cR (cR uF))::[]) (sT 17 [(2,B u2)] [] 1):=by
  obtain rfl:=Option.some.inj h
  exact ai rfl (qp [B u2])
 replace h:=hu2
 clear hu2
 refine sp 5 h rfl (fun h=>?_) fun h=>?_
 ·refine cq 4 [9] [B (decide (b_1≤122))] 129 ?_
  obtain⟨u3,hu3,h⟩:=lJ h
  have j3:Run rd 0 (tw b_1 r) (.code (cR (cR uF))::[]) (sT 17 [(2,B u3)] [] 1):=by
   subst h
   exact rf [2] [] (j2 :)
  replace h:=hu3
  clear hu3
  refine sp 9 h rfl (fun h=>?_) fun h=>?_
  ·refine cq 9 [2] [B true] 257 ?_
   subst h
   exact rf [2] [] (j3 :)
  ·refine cq 3 [12] [B (decide (b_1≥48))] 177 ?_
   obtain⟨u4,hu4,h⟩:=lJ h
   have j4:Run rd 0 (tw b_1 r) (.code (cR (cR uF))::[]) (sT 17 [(2,B u4)] [] 1):=by
    subst h
    exact rf [2] [] (j3 :)
   replace h:=hu4
   clear hu4
   refine sp 12 h rfl (fun h=>?_) fun h=>?_
   ·refine cq 6 [2] [B (decide (b_1≤57))] 257 ?_
    subst h
    exact rf [2] [] (j4 :)
   ·refine cq 6 [2] [B false] 257 ?_
    subst h
    exact rf [2] [] (j4 :)
 ·refine cq 7 [9,12] [B false,B (decide (b_1≥48))] 177 ?_
  obtain⟨u5,hu5,h⟩:=lJ h
  have j5:Run rd 0 (tw b_1 r) (.code (cR (cR uF))::[]) (sT 17 [(2,B u5)] [] 1):=by
   subst h
   exact rf [2] [] (j2 :)
  replace h:=hu5
  clear hu5
  refine sp 12 h rfl (fun h=>?_) fun h=>?_
  ·refine cq 6 [2] [B (decide (b_1≤57))] 257 ?_
   subst h
   exact rf [2] [] (j5 :)
  ·refine cq 6 [2] [B false] 257 ?_
   subst h
   exact rf [2] [] (j5 :)
theorem OH {G:Go.Ln.Ground}:aH Tryz.prog G 200 xK:=gT 1 0 bf (Checked.mixed Tryz.checked) Tryz.func200 (fun a r h=>QE a r h)
def A4:ah→List V:=oA str
def zZ (r:Bool):V×List V:=(B r,[])
noncomputable def mm:Ent:=aP [false] A4 zZ fun x=>oW x
theorem ol {s_1:ah}{r}(h:oW s_1=some r):mm.F (A4 s_1)=some (zZ r):=aA (aB bm) h
noncomputable def mP:Code:=ay Tryz.f157
noncomputable abbrev kV:Code:=cR (cR (cR (cR mP)))
noncomputable abbrev lb:Code:=cR (cL (cR (cL (cR (cR (cR mP))))))
noncomputable def gQ:Env:=bC Tryz.prog [(73,ed),(200,xK)]
def fI (x:ah)(r:Bool):St→Prop:=QF gQ Tryz.f157 [false] (A4 x) (zZ r)
theorem Ji (s_1:ah):b9 gQ 0 (fI s_1) (cL (cL (cR (cL (cR (cR mP)))))) 0 (rk s_1) (fun u=>(sT 40 [(0,str s_1)] [] 1)) fun x4=>(sT 40 [(0,str s_1),(3,I x4)] [] 1):=dM (wC s_1) fun {Q K} hK self ih x4 y h hr hn=>by
 unfold kY at h
 refine cq 8 [21] [B (decide (x4<(len s_1)))] 65 ?_
 refine sq h (fun h=>?_) fun h=>?_
 ·refine aq 1 ?_
  refine cq 6 [24,25] [str s_1,I x4] 97 ?_
  obtain⟨c5,hc5,h⟩:=bS h
  refine oq 113 (.int .u8 (c5.toNat:Int)) rfl (lA rfl rfl (pC rfl rfl hc5)) ?_
  obtain⟨r6,hr6,h⟩:=bS h
  refine oq 129 (B r6) rfl (cP (WF hr6)) ?_
  refine cq 2 [28] [B (!r6)] 145 ?_
  refine sq h (fun h=>?_) fun h=>?_
  ·refine cq 4 [2] [B false] 161 ?_
   exact ai rfl (hr _ (Option.some.inj h).symm _ (qp [B false]))
  ·refine aq 1 ?_
   refine cq 6 [3] [I (ar (x4+1))] 193 ?_
   refine cE ?_
   exact rf [0,3] [] (ih _ _ h hr hn :)
 ·refine aq 1 ?_
  exact rf [0] [] (hn _ (Option.some.inj h).symm :) (hk:=hK)
theorem Rf (s_1:ah)(r:Bool)(h:oW s_1=some r):bc gQ Tryz.f157 [false] 0 (A4 s_1) (zZ r):=by
 show Run _ _ (fI s_1 r) [.code mP] _
 refine rI 40 [(0,str s_1)] [] 1 ?_
 unfold oW at h
 refine cq 9 [5] [I (len s_1)] 49 ?_
 obtain⟨r2,hr2,h⟩:=bS h
 refine oq 65 (B r2) rfl (cP (cY hr2)) ?_
 refine cq 2 [8] [B (!r2)] 97 ?_
 obtain⟨y3,hy3,hy31,hy32⟩:=bJ h
 have j3:∀u3,y3=.inr u3→Run gQ 0 (fI s_1 r) (.code (cR (cL (cR mP)))::.code (cR (cR mP))::[]) (sT 40 [(0,str s_1),(17,B u3)] [] 1):=by
  intro u3 hu
  replace h:=hy32 u3 hu
  refine sq h (fun h=>?_) fun h=>?_
  ·refine cq 4 [2] [B false] 17 ?_
   obtain rfl:=Option.some.inj h
   exact ai rfl (qp [B false])
  ·refine aq 1 ?_
   refine cq 6 [3] [I (0)] 17 ?_
   obtain⟨y7,hy7,hy71,hy72⟩:=bJ h
   refine bD rfl ?_
   refine rf [0,3] [] (Ji s_1 rfl 0 _ hy7 (fun r' e st hq=>by rw[hy71 r' e] at hq;exact hq) fun u7 hu=>?_)
   replace h:=hy72 u7 hu
   refine cq 12 [29,30] [str s_1,B (s_1==([116,114,117,101]:ah))] 49 ?_
   obtain⟨u8,hu8,h⟩:=lJ h
   have j8:Run gQ 0 (fI s_1 r) (.code lb::.blk 2::.code kV::[]) (sT 40 [(30,B u8)] [] 1):=by
    refine sq h (fun h=>?_) fun h=>?_
    ·refine cq 4 [2] [B false] 17 ?_
     obtain rfl:=Option.some.inj h
     exact ai rfl (qp [B false])
    ·refine aq 1 ?_
     refine cq 5 [2] [B true] 17 ?_
     obtain rfl:=Option.some.inj h
     exact ai rfl (qp [B true])
   replace h:=hu8
   clear hu8
   refine vw h rfl rfl (fun h=>?_) fun h=>?_
   ·refine aq 1 ?_
    subst h
    exact rf [30] [] (j8 :)
   ·refine cq 5 [30] [B (s_1==([102,114,111,109]:ah))] 81 ?_
    obtain⟨u9,hu9,h⟩:=lJ h
    have j9:Run gQ 0 (fI s_1 r) (.code lb::.blk 2::.code kV::[]) (sT 40 [(30,B u9)] [] 1):=by
     subst h
     exact rf [30] [] (j8 :)
    replace h:=hu9
    clear hu9
    refine vw h rfl rfl (fun h=>?_) fun h=>?_
    ·refine aq 1 ?_
     subst h
     exact rf [30] [] (j9 :)
    ·refine cq 5 [30] [B (s_1==([110,111,116]:ah))] 113 ?_
     obtain⟨u10,hu10,h⟩:=lJ h
     have j10:Run gQ 0 (fI s_1 r) (.code lb::.blk 2::.code kV::[]) (sT 40 [(30,B u10)] [] 1):=by
      subst h
      exact rf [30] [] (j9 :)
     replace h:=hu10
     clear hu10
     refine vw h rfl rfl (fun h=>?_) fun h=>?_
     ·refine aq 1 ?_
      subst h
      exact rf [30] [] (j10 :)
     ·refine cq 5 [30] [B (s_1==([97,110,100]:ah))] 145 ?_
      obtain⟨u11,hu11,h⟩:=lJ h
      have j11:Run gQ 0 (fI s_1 r) (.code lb::.blk 2::.code kV::[]) (sT 40 [(30,B u11)] [] 1):=by
       subst h
       exact rf [30] [] (j10 :)
      replace h:=hu11
      clear hu11
      refine vw h rfl rfl (fun h=>?_) fun h=>?_
      ·refine aq 1 ?_
       subst h
       exact rf [30] [] (j11 :)
      ·refine cq 5 [30] [B (s_1==([111,114]:ah))] 177 ?_
       obtain⟨u12,hu12,h⟩:=lJ h
       have j12:Run gQ 0 (fI s_1 r) (.code lb::.blk 2::.code kV::[]) (sT 40 [(30,B u12)] [] 1):=by
        subst h
        exact rf [30] [] (j11 :)
       replace h:=hu12
       clear hu12
       refine vw h rfl rfl (fun h=>?_) fun h=>?_
       ·refine aq 1 ?_
        subst h
        exact rf [30] [] (j12 :)
       ·refine cq 5 [30] [B (s_1==([98,111,116,104]:ah))] 209 ?_
        obtain⟨u13,hu13,h⟩:=lJ h
        have j13:Run gQ 0 (fI s_1 r) (.code lb::.blk 2::.code kV::[]) (sT 40 [(30,B u13)] [] 1):=by
         subst h
         exact rf [30] [] (j12 :)
        replace h:=hu13
        clear hu13
        refine vw h rfl rfl (fun h=>?_) fun h=>?_
        ·refine aq 1 ?_
         subst h
         exact rf [30] [] (j13 :)
        ·refine cq 5 [30] [B (s_1==([101,105,116,104,101,114]:ah))] 241 ?_
         obtain⟨u14,hu14,h⟩:=lJ h
         have j14:Run gQ 0 (fI s_1 r) (.code lb::.blk 2::.code kV::[]) (sT 40 [(30,B u14)] [] 1):=by
          subst h
          exact rf [30] [] (j13 :)
         replace h:=hu14
         clear hu14
         refine vw h rfl rfl (fun h=>?_) fun h=>?_
         ·refine aq 1 ?_
          subst h
          exact rf [30] [] (j14 :)
         ·refine cq 5 [30] [B (s_1==([105,116]:ah))] 273 ?_
          obtain⟨u15,hu15,h⟩:=lJ h
          have j15:Run gQ 0 (fI s_1 r) (.code lb::.blk 2::.code kV::[]) (sT 40 [(30,B u15)] [] 1):=by
           subst h
           exact rf [30] [] (j14 :)
          replace h:=hu15
          clear hu15
          refine vw h rfl rfl (fun h=>?_) fun h=>?_
          ·refine aq 1 ?_
           subst h
           exact rf [30] [] (j15 :)
          ·refine cq 4 [30] [B (s_1==([105,110]:ah))] 305 ?_
           subst h
           exact rf [30] [] (j15 :)
 have r3:∀r',y3=.inl r'→∀st,fI s_1 r' st→(fI s_1 r) st:=fun r' e st hq=>by rw[hy31 r' e] at hq;exact hq
 replace h:=hy3
 refine sp 8 h rfl (fun h=>?_) fun h=>?_
 ·refine cq 10 [17] [B true] 241 ?_
  exact rf [0,17] [] (j3 _ (Option.some.inj h).symm :)
 ·refine cq 1 [9] [str s_1] 113 ?_
  obtain⟨c16,hc16,h⟩:=bS h
  refine oy 129 (.int .u8 (c16.toNat:Int)) rfl (lA rfl rfl (pC rfl rfl hc16)) ?_
  refine cq 3 [13] [B (decide ((c16.toNat:Int)<97))] 177 ?_
  obtain⟨y17,hy17,hy171,hy172⟩:=bL h
  have j17:∀u17,y17=.inr u17→Run gQ 0 (fI s_1 r) (.code (cR (cL (cR mP)))::.code (cR (cR mP))::[]) (sT 40 [(0,str s_1),(17,B u17)] [] 1):=by
   intro u17 hu
   replace h:=hy172 u17 hu
   exact rf [0,17] [] (j3 _ (Option.some.inj h).symm :)
  have r17:∀r',y17=.inl r'→∀st,fI s_1 r' st→(fI s_1 r) st:=fun r' e st hq=>r3 r' (hy171 r' e) st hq
  replace h:=hy17
  refine sp 13 h rfl (fun h=>?_) fun h=>?_
  ·refine cq 5 [17] [B true] 241 ?_
   exact rf [0,17] [] (j17 _ (Option.some.inj h).symm :)
  ·refine cq 1 [14] [str s_1] 193 ?_
   obtain⟨c18,hc18,h⟩:=bS h
   refine oy 209 (.int .u8 (c18.toNat:Int)) rfl (lA rfl rfl (pC rfl rfl hc18)) ?_
   refine cq 3 [17] [B (decide ((c18.toNat:Int)>122))] 241 ?_
   exact rf [0,17] [] (j17 _ (Option.some.inj h).symm :)
theorem pw {G:Go.Ln.Ground}:aH Tryz.prog G 157 mm:=gT 1 0 (aD eU (aD OH bf)) (Checked.mixed Tryz.checked) Tryz.func157 (fun a r h=>Rf a r h)
def zW:((List ah)×ah)→List V:=cA (ee str) (oA str)
def Dl (r:Bool):V×List V:=(B r,[])
noncomputable def se:Ent:=aP [false,false] zW Dl fun x=>sd x.1 x.2
theorem H3 {list_1:List ah}{name_2:ah}{r}(h:sd list_1 name_2=some r):se.F (zW (list_1,name_2))=some (Dl r):=aA (aY (bw bm) (aB bm)) h
noncomputable def MT:Code:=ay Tryz.f117
noncomputable def Iw:Env:=bC Tryz.prog []
def Pb (x:(List ah)×ah)(r:Bool):St→Prop:=QF Iw Tryz.f117 [false,false] (zW x) (Dl r)
theorem Jx (list_1:List ah)(name_2:ah):b9 Iw 0 (Pb (list_1,name_2)) (cL (cL (cR (cL (cR MT))))) 0 (qw list_1 name_2) (fun u=>(sT 18 [] [] 1)) fun x3=>(sT 18 [(0,.isl false (list_1.map str)),(1,str name_2),(5,I x3)] [] 1):=dM (vA list_1 name_2) fun {Q K} hK self ih x3 y h hr hn=>by
 unfold la at h
 refine cq 5 [6,7] [I x3,.isl false (list_1.map str)] 33 ?_
 refine oq 49 (I (len list_1)) rfl (aW rfl rfl rfl (bb rfl)) ?_
 refine cq 2 [9] [B (decide (x3<(len list_1)))] 65 ?_
 refine sq h (fun h=>?_) fun h=>?_
 ·refine aq 1 ?_
  refine cq 6 [12,13] [.isl false (list_1.map str),I x3] 97 ?_
  obtain⟨e4,he4,h⟩:=bS h
  refine oq 113 (.iptr (str e4) 0) rfl (an rfl rfl rfl (aM rfl rfl rfl rfl he4)) ?_
  refine cq 4 [17] [B (e4==name_2)] 161 ?_
  refine sq h (fun h=>?_) fun h=>?_
  ·refine cq 4 [4] [B true] 177 ?_
   exact ai rfl (hr _ (Option.some.inj h).symm _ (qp [B true]))
  ·refine aq 1 ?_
   refine cq 6 [5] [I (ar (x3+1))] 209 ?_
   refine cE ?_
   exact rf [0,1,5] [] (ih _ _ h hr hn :)
 ·refine aq 1 ?_
  exact rf [] [] (hn _ (Option.some.inj h).symm :) (hk:=hK)
theorem Rv (list_1:List ah)(name_2:ah)(r:Bool)(h:sd list_1 name_2=some r):bc Iw Tryz.f117 [false,false] 0 (zW (list_1,name_2)) (Dl r):=by
 show Run _ _ (Pb (list_1,name_2) r) [.code MT] _
 refine rI 18 [(0,.isl false (list_1.map str)),(1,str name_2)] [] 1 ?_
 unfold sd at h
 refine cq 10 [5] [I (0)] 33 ?_
 obtain⟨y5,hy5,hy51,hy52⟩:=bJ h
 refine bD rfl ?_
 refine rf [0,1,5] [] (Jx list_1 name_2 rfl 0 _ hy5 (fun r' e st hq=>by rw[hy51 r' e] at hq;exact hq) fun u5 hu=>?_)
 replace h:=hy52 u5 hu
 refine cq 4 [4] [B false] 17 ?_
 obtain rfl:=Option.some.inj h
 exact ai rfl (qp [B false])
theorem E2 {G:Go.Ln.Ground}:aH Tryz.prog G 117 se:=gT 2 0 bf (Checked.mixed Tryz.checked) Tryz.func117 (fun a r h=>Rv a.1 a.2 r h)
def Bx:Contract→List V:=oA aG
def zD (r:Bool):V×List V:=(B r,[])
noncomputable def yq:Ent:=aP [false] Bx zD fun x=>uu x
theorem VI {c_1:Contract}{r}(h:uu c_1=some r):yq.F (Bx c_1)=some (zD r):=aA (aB aQ) h
noncomputable def tk:Code:=ay Tryz.f139
noncomputable def B1:Env:=bC Tryz.prog [(157,mm),(117,se),(73,ed)]
def Hf (x:Contract)(r:Bool):St→Prop:=QF B1 Tryz.f139 [false] (Bx x) (zD r)
theorem Js (c_1:Contract):b9 B1 0 (Hf c_1) (cL (cL (cR (cL (cR tk))))) 0 (qn c_1) (fun u=>(sT 34 [(1,.hp 1 0 [] 2 0 0)] [⟨0,2,[.agg [.isl false (c_1.Parties.map str),.isl false (c_1.Clauses.map aa)]]⟩] 2)) fun x2=>(sT 34 [(1,.hp 1 0 [] 2 0 0),(3,I x2)] [⟨0,2,[.agg [.isl false (c_1.Parties.map str),.isl false (c_1.Clauses.map aa)]]⟩] 2):=dM (wg c_1) fun {Q K} hK self ih x2 y h hr hn=>by
 unfold jq at h
 refine cq 6 [4,6] [I x2,.isl false (c_1.Parties.map str)] 50 ?_
 refine oq 66 (I (len c_1.Parties)) rfl (aW rfl rfl rfl (bb rfl)) ?_
 refine cq 2 [8] [B (decide (x2<(len c_1.Parties)))] 82 ?_
 refine sq h (fun h=>?_) fun h=>?_
 ·refine aq 1 ?_
  refine aq 3 ?_
  refine d7 [0,1,0,7,15,31,63,127,255,511,255,2047,255,4351,255,28927,61695,131071,262143] rfl (by decide +kernel) ?_
  refine dq [1] [] (.hp 1 0 [] 2 0 0) rfl (al rfl rfl rfl) ?_
  refine dq [1] [] (.isl false (c_1.Parties.map str)) rfl (aO rfl rfl) ?_
  refine dk 1 [13] [I x2] ?_
  obtain⟨e3,he3,h⟩:=bS h
  refine dq [] [] (.iptr (str e3) 0) rfl (an rfl rfl rfl (aM rfl rfl rfl rfl he3)) ?_
  refine dq [] [] (str e3) rfl (aO rfl rfl) ?_
  obtain⟨r4,hr4,h⟩:=bS h
  refine dq [] [] (B r4) rfl (cP (ol hr4)) ?_ (dj rfl rfl rfl rfl (ca (cT rfl) dD) (ol hr4) (.inr rfl) rfl)
  refine dk 2 [18,17] [B (!r4),B (!r4)] ?_
  obtain⟨y5,hy5,hy51,hy52⟩:=bL h
  have j5:∀u5,y5=.inr u5→Run B1 0 Q (.code (cR (cL (cL (cR (cL (cL (cR (cL (cR tk)))))))))::.blk 1::.code (cR (cR (cL (cL (cR (cL (cR tk)))))))::.lp (cL (cL (cR (cL (cR tk)))))::.blk 0::K) (sT 34 [(1,.hp 1 0 [] 2 0 0),(3,I x2),(29,B u5)] [⟨0,2,[.agg [.isl false (c_1.Parties.map str),.isl false (c_1.Clauses.map aa)]]⟩] 2):=by
   intro u5 hu
   replace h:=hy52 u5 hu
   refine sq h (fun h=>?_) fun h=>?_
   ·refine cq 4 [2] [B false] 18 ?_
    exact ai rfl (hr _ (Option.some.inj h).symm _ (qp [B false]))
   ·refine aq 1 ?_
    refine cq 6 [3] [I (ar (x2+1))] 50 ?_
    refine cE ?_
    exact rf [1,3] [1] (ih _ _ h hr hn :)
  have r5:∀r',y5=.inl r'→∀st,Hf c_1 r' st→Q st:=fun r' e st hq=>hr r' (hy51 r' e) st hq
  replace h:=hy5
  refine sp 18 h rfl (fun h=>?_) fun h=>?_
  ·refine dk 11 [29,28,27,26,25,24,23,22,21,20,19] [B true,.und,.und,.und,.und,.und,.und,.und,.und,.und,.und] ?_
   refine de 386 rfl rfl ?_
   exact rf [1,3,29] [1] (j5 _ (Option.some.inj h).symm :)
  ·refine dy [1] [] (.hp 1 0 [] 2 0 0) rfl (al rfl rfl rfl) ?_
   refine dy [1] [] (.isl false (c_1.Parties.map str)) rfl (aO rfl rfl) ?_
   refine dk 1 [21] [I x2] ?_
   obtain⟨s6,hs6,h⟩:=bS h
   refine dy [] [] (.isl false (s6.map str)) rfl (gi rfl rfl rfl rfl (GW rfl rfl (fun y=>(js y).1) rfl rfl hs6)) ?_
   refine dy [1] [] (.hp 1 0 [] 2 0 0) rfl (al rfl rfl rfl) ?_
   refine dy [1] [] (.isl false (c_1.Parties.map str)) rfl (aO rfl rfl) ?_
   refine dk 1 [25] [I x2] ?_
   obtain⟨e7,he7,h⟩:=bS h
   refine dy [] [] (.iptr (str e7) 0) rfl (an rfl rfl rfl (aM rfl rfl rfl rfl he7)) ?_
   refine dy [] [] (str e7) rfl (aO rfl rfl) ?_
   obtain⟨r8,hr8,h⟩:=bS h
   refine dy [] [] (B r8) rfl (cP (H3 hr8)) ?_ (dj rfl rfl rfl rfl (ca (cT rfl) (ca (cT rfl) dD)) (H3 hr8) (.inr rfl) rfl)
   refine dk 1 [29] [B r8] ?_
   refine de 386 rfl rfl ?_
   exact rf [1,3,29] [1] (j5 _ (Option.some.inj h).symm :)
 ·refine aq 1 ?_
  exact rf [1] [1] (hn _ (Option.some.inj h).symm :) (hk:=hK)
theorem Ra (c_1:Contract)(r:Bool)(h:uu c_1=some r):bc B1 Tryz.f139 [false] 0 (Bx c_1) (zD r):=by
 show Run _ _ (Hf c_1 r) [.code tk] _
 refine rI 34 [(0,.agg [.isl false (c_1.Parties.map str),.isl false (c_1.Clauses.map aa)])] [] 1 ?_
 unfold uu at h
 refine ck 11 [1,3] [] [1] [] [.hp 1 0 [] 2 0 0,I (0)] [some ⟨0,2,[.agg [.isl false (c_1.Parties.map str),.isl false (c_1.Clauses.map aa)]]⟩] 49 (by kernel_rfl) ?_
 obtain⟨y9,hy9,hy91,hy92⟩:=bJ h
 refine bD rfl ?_
 refine rf [1,3] [1] (Js c_1 rfl 0 _ hy9 (fun r' e st hq=>by rw[hy91 r' e] at hq;exact hq) fun u9 hu=>?_)
 replace h:=hy92 u9 hu
 refine cq 4 [31] [.isl false (c_1.Parties.map str)] 34 ?_
 refine oq 50 (I (len c_1.Parties)) rfl (aW rfl rfl rfl (bb rfl)) ?_
 obtain⟨r10,hr10,h⟩:=bS h
 refine oq 66 (B r10) rfl (cP (cY hr10)) ?_
 refine cq 2 [2] [B r10] 82 ?_
 obtain rfl:=Option.some.inj h
 exact ai rfl (qp [B r10])
theorem Ov {G:Go.Ln.Ground}:aH Tryz.prog G 139 yq:=gT 1 0 (aD pw (aD E2 (aD eU bf))) (Checked.mixed Tryz.checked) Tryz.func139 (fun a r h=>Ra a r h)
def CL:(Contract×ah)→List V:=cA aG (oA str)
def Aq (r:Int):V×List V:=(I r,[])
noncomputable def rA:Ent:=aP [false,false] CL Aq fun x=>sA x.1 x.2
theorem HQ {c_1:Contract}{id_2:ah}{r}(h:sA c_1 id_2=some r):rA.F (CL (c_1,id_2))=some (Aq r):=aA (aY aQ (aB bm)) h
noncomputable def Nc:Code:=ay Tryz.f140
noncomputable def HP:Env:=bC Tryz.prog []
def Nx (x:Contract×ah)(r:Int):St→Prop:=QF HP Tryz.f140 [false,false] (CL x) (Aq r)
theorem JJ (c_1:Contract)(id_2:ah):b9 HP 0 (Nx (c_1,id_2)) (cL (cL (cR (cL (cR Nc))))) 0 (qz c_1 id_2) (fun u=>(sT 22 [] [] 1)) fun x3=>(sT 22 [(1,str id_2),(2,.hp 1 0 [] 2 0 0),(5,I x3)] [⟨0,2,[.agg [.isl false (c_1.Parties.map str),.isl false (c_1.Clauses.map aa)]]⟩] 2):=dM (vx c_1 id_2) fun {Q K} hK self ih x3 y h hr hn=>by
 unfold ly at h
 refine cq 6 [6,8] [I x3,.isl false (c_1.Clauses.map aa)] 50 ?_
 refine oq 66 (I (len c_1.Clauses)) rfl (aW rfl rfl rfl (bb rfl)) ?_
 refine cq 2 [10] [B (decide (x3<(len c_1.Clauses)))] 82 ?_
 refine sq h (fun h=>?_) fun h=>?_
 ·refine aq 1 ?_
  refine cq 7 [14,15] [.isl false (c_1.Clauses.map aa),I x3] 130 ?_
  obtain⟨e4,he4,h⟩:=bS h
  refine oq 146 (.iptr (.agg [str e4.Id,I e4.Kind,I e4.Party,str e4.Action,I e4.Other,I e4.Amount,I e4.When.Op,str e4.When.Name,I e4.When.Day,.isl false (e4.When.Parts.map ac),I e4.Within,str e4.Repair]) 0) rfl (an rfl rfl rfl (aM rfl rfl rfl rfl he4)) ?_
  refine cq 5 [20] [B (e4.Id==id_2)] 210 ?_
  refine sq h (fun h=>?_) fun h=>?_
  ·refine cq 5 [4] [I x3] 242 ?_
   exact ai rfl (hr _ (Option.some.inj h).symm _ (qp [I x3]))
  ·refine aq 1 ?_
   refine cq 6 [5] [I (ar (x3+1))] 258 ?_
   refine cE ?_
   exact rf [1,2,5] [1] (ih _ _ h hr hn :)
 ·refine aq 1 ?_
  exact rf [] [] (hn _ (Option.some.inj h).symm :) (hk:=hK)
theorem Qq (c_1:Contract)(id_2:ah)(r:Int)(h:sA c_1 id_2=some r):bc HP Tryz.f140 [false,false] 0 (CL (c_1,id_2)) (Aq r):=by
 show Run _ _ (Nx (c_1,id_2) r) [.code Nc] _
 refine rI 22 [(0,.agg [.isl false (c_1.Parties.map str),.isl false (c_1.Clauses.map aa)]),(1,str id_2)] [] 1 ?_
 unfold sA at h
 refine ck 11 [2,5] [] [1] [] [.hp 1 0 [] 2 0 0,I (0)] [some ⟨0,2,[.agg [.isl false (c_1.Parties.map str),.isl false (c_1.Clauses.map aa)]]⟩] 49 (by kernel_rfl) ?_
 obtain⟨y5,hy5,hy51,hy52⟩:=bJ h
 refine bD rfl ?_
 refine rf [1,2,5] [1] (JJ c_1 id_2 rfl 0 _ hy5 (fun r' e st hq=>by rw[hy51 r' e] at hq;exact hq) fun u5 hu=>?_)
 replace h:=hy52 u5 hu
 refine cq 4 [4] [I (-1)] 17 ?_
 obtain rfl:=Option.some.inj h
 exact ai rfl (qp [I (-1)])
theorem EI {G:Go.Ln.Ground}:aH Tryz.prog G 140 rA:=gT 2 0 bf (Checked.mixed Tryz.checked) Tryz.func140 (fun a r h=>Qq a.1 a.2 r h)
def Ap:Int→List V:=oA I
def Df (r:Bool):V×List V:=(B r,[])
noncomputable def oo:Ent:=aP [false] Ap Df fun x=>oM x
theorem C1 {day_1:Int}{r}(h:oM day_1=some r):oo.F (Ap day_1)=some (Df r):=aA (aB bO) h
noncomputable def Vm:Code:=ay Tryz.f114
noncomputable def N2:Env:=bC Tryz.prog [(73,ed)]
def VS (x:Int)(r:Bool):St→Prop:=QF N2 Tryz.f114 [false] (Ap x) (Df r)
theorem QZ (day_1:Int)(r:Bool)(h:oM day_1=some r):bc N2 Tryz.f114 [false] 0 (Ap day_1) (Df r):=by
 show Run _ _ (VS day_1 r) [.code Vm] _
 refine rI 5 [(0,I day_1)] [] 1 ?_
 unfold oM at h
 refine cq 7 [3] [I day_1] 33 ?_
 obtain⟨r2,hr2,h⟩:=bS h
 refine oq 49 (B r2) rfl (cP (cY hr2)) ?_
 refine cq 2 [2] [B r2] 65 ?_
 obtain rfl:=Option.some.inj h
 exact ai rfl (qp [B r2])
theorem uT {G:Go.Ln.Ground}:aH Tryz.prog G 114 oo:=gT 1 0 (aD eU bf) (Checked.mixed Tryz.checked) Tryz.func114 (fun a r h=>QZ a r h)
def B6:Condition→List V:=oA aU
def zl (r:Bool):V×List V:=(B r,[])
noncomputable def xr:Ent:=aP [false] B6 zl fun x=>wV x
theorem U7 {c_1:Condition}{r}(h:wV c_1=some r):xr.F (B6 c_1)=some (zl r):=aA (aB cf) h
noncomputable def lX:Code:=ay Tryz.f244
noncomputable abbrev gK:Code:=cR (cR (cR lX))
noncomputable abbrev Kc:Code:=cR (cL (cR (cR (cR (cL (cR (cL (cR (cR lX)))))))))
noncomputable abbrev Kk:Code:=cR (cL (cR (cR (cR (cR (cR (cL (cR (cL (cR (cR lX)))))))))))
noncomputable abbrev Km:Code:=cR (cL (cR (cR (cR (cR (cR (cR (cR (cL (cR (cL (cR (cR lX)))))))))))))
noncomputable abbrev Kr:Code:=cR (cL (cR (cR (cR (cR (cR (cR (cR (cR (cR (cL (cR (cL (cR (cR lX)))))))))))))))
noncomputable def gO:Env:=bC Tryz.prog [(157,mm),(114,oo)]
def eT (x:Condition)(r:Bool):St→Prop:=QF gO Tryz.f244 [false] (B6 x) (zl r)
theorem Su (c_1:Condition)(r:Bool)(h:wV c_1=some r):bc gO Tryz.f244 [false] 0 (B6 c_1) (zl r):=by
 show Run _ _ (eT c_1 r) [.code lX] _
 refine rI 80 [(0,.agg [I c_1.Op,str c_1.Name,I c_1.Day,.isl false (c_1.Parts.map ac)])] [] 1 ?_
 unfold wV at h
 refine ck 9 [1,5] [] [1] [] [.hp 1 0 [] 4 0 0,.isl false (c_1.Parts.map ac)] [some ⟨0,4,[.agg [I c_1.Op,str c_1.Name,I c_1.Day,.isl false (c_1.Parts.map ac)]]⟩] 65 (by kernel_rfl) ?_
 refine oq 81 (I (len c_1.Parts)) rfl (aW rfl rfl rfl (bb rfl)) ?_
 refine cq 14 [3,8,9] [I (len c_1.Parts),I c_1.Op,B (c_1.Op==1)] 161 ?_
 refine sq h (fun h=>?_) fun h=>?_
 ·refine cq 5 [13] [B ((len c_1.Parts)==0)] 209 ?_
  obtain⟨u2,hu2,h⟩:=lJ h
  have j2:Run gO 0 (eT c_1 r) (.code (cR (cL (cR (cL (cR (cL (cR (cR lX))))))))::.blk 0::.code gK::[]) (sT 80 [(2,B u2)] [] 1):=by
   obtain rfl:=Option.some.inj h
   exact ai rfl (qp [B u2])
  replace h:=hu2
  clear hu2
  refine sp 13 h rfl (fun h=>?_) fun h=>?_
  ·refine cq 5 [18] [B (c_1.Name==([]:ah))] 289 ?_
   obtain⟨u3,hu3,h⟩:=lJ h
   have j3:Run gO 0 (eT c_1 r) (.code (cR (cL (cR (cL (cR (cL (cR (cR lX))))))))::.blk 0::.code gK::[]) (sT 80 [(2,B u3)] [] 1):=by
    subst h
    exact rf [2] [] (j2 :)
   replace h:=hu3
   clear hu3
   refine sp 18 h rfl (fun h=>?_) fun h=>?_
   ·refine cq 6 [2] [B (c_1.Day==0)] 369 ?_
    subst h
    exact rf [2] [] (j3 :)
   ·refine cq 6 [2] [B false] 369 ?_
    subst h
    exact rf [2] [] (j3 :)
  ·refine cq 11 [2] [B false] 369 ?_
   subst h
   exact rf [2] [] (j2 :)
 ·refine cq 5 [23] [B (c_1.Op==2)] 193 ?_
  refine sq h (fun h=>?_) fun h=>?_
  ·refine cq 5 [27] [B ((len c_1.Parts)==0)] 241 ?_
   obtain⟨y4,hy4,hy41,hy42⟩:=bJ h
   have j4:∀u4,y4=.inr u4→Run gO 0 (eT c_1 r) (.code Kc::.blk 0::.code gK::[]) (sT 80 [(2,B u4)] [] 1):=by
    intro u4 hu
    replace h:=hy42 u4 hu
    obtain rfl:=Option.some.inj h
    exact ai rfl (qp [B u4])
   have r4:∀r',y4=.inl r'→∀st,eT c_1 r' st→(eT c_1 r) st:=fun r' e st hq=>by rw[hy41 r' e] at hq;exact hq
   replace h:=hy4
   refine sp 27 h rfl (fun h=>?_) fun h=>?_
   ·refine cq 2 [29] [str c_1.Name] 273 ?_
    obtain⟨r5,hr5,h⟩:=bS h
    refine oy 289 (B r5) rfl (cP (ol hr5)) ?_
    refine cq 2 [32] [B r5] 321 ?_
    obtain⟨u6,hu6,h⟩:=lJ h
    have j6:Run gO 0 (eT c_1 r) (.code Kc::.blk 0::.code gK::[]) (sT 80 [(2,B u6)] [] 1):=by
     exact rf [2] [] (j4 _ (Option.some.inj h).symm :)
    replace h:=hu6
    clear hu6
    refine sp 32 h rfl (fun h=>?_) fun h=>?_
    ·refine cq 6 [2] [B (c_1.Day==0)] 401 ?_
     subst h
     exact rf [2] [] (j6 :)
    ·refine cq 6 [2] [B false] 401 ?_
     subst h
     exact rf [2] [] (j6 :)
   ·refine cq 11 [2] [B false] 401 ?_
    exact rf [2] [] (j4 _ (Option.some.inj h).symm :)
  ·refine cq 5 [37] [B (c_1.Op==3)] 225 ?_
   refine sq h (fun h=>?_) fun h=>?_
   ·refine cq 5 [41] [B ((len c_1.Parts)==0)] 273 ?_
    obtain⟨y7,hy7,hy71,hy72⟩:=bJ h
    have j7:∀u7,y7=.inr u7→Run gO 0 (eT c_1 r) (.code Kk::.blk 0::.code gK::[]) (sT 80 [(2,B u7)] [] 1):=by
     intro u7 hu
     replace h:=hy72 u7 hu
     obtain rfl:=Option.some.inj h
     exact ai rfl (qp [B u7])
    have r7:∀r',y7=.inl r'→∀st,eT c_1 r' st→(eT c_1 r) st:=fun r' e st hq=>by rw[hy71 r' e] at hq;exact hq
    replace h:=hy7
    refine sp 41 h rfl (fun h=>?_) fun h=>?_
    ·refine cq 5 [46] [B (c_1.Name==([]:ah))] 353 ?_
     obtain⟨y8,hy8,hy81,hy82⟩:=bL h
     have j8:∀u8,y8=.inr u8→Run gO 0 (eT c_1 r) (.code Kk::.blk 0::.code gK::[]) (sT 80 [(2,B u8)] [] 1):=by
      intro u8 hu
      replace h:=hy82 u8 hu
      exact rf [2] [] (j7 _ (Option.some.inj h).symm :)
     have r8:∀r',y8=.inl r'→∀st,eT c_1 r' st→(eT c_1 r) st:=fun r' e st hq=>r7 r' (hy81 r' e) st hq
     replace h:=hy8
     refine sp 46 h rfl (fun h=>?_) fun h=>?_
     ·refine cq 2 [48] [I c_1.Day] 385 ?_
      obtain⟨r9,hr9,h⟩:=bS h
      refine oy 401 (B r9) rfl (cP (C1 hr9)) ?_
      refine cq 3 [2] [B r9] 433 ?_
      exact rf [2] [] (j8 _ (Option.some.inj h).symm :)
     ·refine cq 6 [2] [B false] 433 ?_
      exact rf [2] [] (j8 _ (Option.some.inj h).symm :)
    ·refine cq 11 [2] [B false] 433 ?_
     exact rf [2] [] (j7 _ (Option.some.inj h).symm :)
   ·refine cq 5 [51] [B (c_1.Op==4)] 257 ?_
    refine sq h (fun h=>?_) fun h=>?_
    ·refine cq 5 [55] [B ((len c_1.Parts)==1)] 305 ?_
     obtain⟨u10,hu10,h⟩:=lJ h
     have j10:Run gO 0 (eT c_1 r) (.code Km::.blk 0::.code gK::[]) (sT 80 [(2,B u10)] [] 1):=by
      obtain rfl:=Option.some.inj h
      exact ai rfl (qp [B u10])
     replace h:=hu10
     clear hu10
     refine sp 55 h rfl (fun h=>?_) fun h=>?_
     ·refine cq 5 [60] [B (c_1.Name==([]:ah))] 385 ?_
      obtain⟨u11,hu11,h⟩:=lJ h
      have j11:Run gO 0 (eT c_1 r) (.code Km::.blk 0::.code gK::[]) (sT 80 [(2,B u11)] [] 1):=by
       subst h
       exact rf [2] [] (j10 :)
      replace h:=hu11
      clear hu11
      refine sp 60 h rfl (fun h=>?_) fun h=>?_
      ·refine cq 6 [2] [B (c_1.Day==0)] 465 ?_
       subst h
       exact rf [2] [] (j11 :)
      ·refine cq 6 [2] [B false] 465 ?_
       subst h
       exact rf [2] [] (j11 :)
     ·refine cq 11 [2] [B false] 465 ?_
      subst h
      exact rf [2] [] (j10 :)
    ·refine cq 6 [65] [B (c_1.Op==5)] 289 ?_
     obtain⟨u12,hu12,h⟩:=lJ h
     have j12:Run gO 0 (eT c_1 r) (.code (cR (cR (cR (cR (cR (cR (cR (cR (cR (cL (cR (cL (cR (cR lX))))))))))))))::.blk 0::.code gK::[]) (sT 80 [(1,.hp 1 0 [] 4 0 0),(3,I (len c_1.Parts)),(65,B u12)] [⟨0,4,[.agg [I c_1.Op,str c_1.Name,I c_1.Day,.isl false (c_1.Parts.map ac)]]⟩] 2):=by
      refine sq h (fun h=>?_) fun h=>?_
      ·refine cq 5 [70] [B ((len c_1.Parts)==2)] 50 ?_
       obtain⟨u13,hu13,h⟩:=lJ h
       have j13:Run gO 0 (eT c_1 r) (.code Kr::.blk 0::.code gK::[]) (sT 80 [(2,B u13)] [] 1):=by
        obtain rfl:=Option.some.inj h
        exact ai rfl (qp [B u13])
       replace h:=hu13
       clear hu13
       refine sp 70 h rfl (fun h=>?_) fun h=>?_
       ·refine cq 5 [75] [B (c_1.Name==([]:ah))] 130 ?_
        obtain⟨u14,hu14,h⟩:=lJ h
        have j14:Run gO 0 (eT c_1 r) (.code Kr::.blk 0::.code gK::[]) (sT 80 [(2,B u14)] [] 1):=by
         subst h
         exact rf [2] [] (j13 :)
        replace h:=hu14
        clear hu14
        refine sp 75 h rfl (fun h=>?_) fun h=>?_
        ·refine cq 6 [2] [B (c_1.Day==0)] 210 ?_
         subst h
         exact rf [2] [] (j14 :)
        ·refine cq 6 [2] [B false] 210 ?_
         subst h
         exact rf [2] [] (j14 :)
       ·refine cq 11 [2] [B false] 210 ?_
        subst h
        exact rf [2] [] (j13 :)
      ·refine aq 1 ?_
       refine cq 5 [2] [B false] 18 ?_
       obtain rfl:=Option.some.inj h
       exact ai rfl (qp [B false])
     replace h:=hu12
     clear hu12
     refine vw h rfl rfl (fun h=>?_) fun h=>?_
     ·refine aq 1 ?_
      subst h
      exact rf [1,3,65] [1] (j12 :)
     ·refine cq 4 [65] [B (c_1.Op==6)] 321 ?_
      subst h
      exact rf [1,3,65] [1] (j12 :)
theorem OX {G:Go.Ln.Ground}:aH Tryz.prog G 244 xr:=gT 1 0 (aD pw (aD uT bf)) (Checked.mixed Tryz.checked) Tryz.func244 (fun a r h=>Su a r h)
def tq:Condition→List V:=oA aU
def tK (r:Bool):V×List V:=(B r,[])
noncomputable def tG (slf_Ffdc:Condition→Option Bool):Ent:=aP [false] tq tK slf_Ffdc
theorem Kg (slf_Ffdc:Condition→Option Bool){x}{r}(h:slf_Ffdc x=some r):(tG slf_Ffdc).F (tq x)=some (tK r):=aA (aB cf) h
noncomputable def wO:Ent:=tG (aJ ox)
theorem Vh {c_1:Condition}{r}(h:Ee c_1=some r):wO.F (tq c_1)=some (tK r):=Kg (aJ ox) h
noncomputable def Ok:Code:=ay Tryz.f224
noncomputable def HU (slf_Ffdc:Condition→Option Bool):Env:=bC Tryz.prog [(244,xr),(224,(tG slf_Ffdc))]
def Md (slf_Ffdc:Condition→Option Bool)(x:Condition)(r:Bool):St→Prop:=QF (HU slf_Ffdc) Tryz.f224 [false] (tq x) (tK r)
theorem Ja (slf_Ffdc:Condition→Option Bool)(c_1:Condition):b9 (HU slf_Ffdc) 0 (Md slf_Ffdc c_1) (cL (cL (cR (cL (cR (cR Ok)))))) 0 (nX slf_Ffdc c_1) (fun u=>(sT 21 [] [] 1)) fun x3=>(sT 21 [(1,.hp 1 0 [] 4 0 0),(3,I x3)] [⟨0,4,[.agg [I c_1.Op,str c_1.Name,I c_1.Day,.isl false (c_1.Parts.map ac)]]⟩] 2):=dM (vX slf_Ffdc c_1) fun {Q K} hK self ih x3 y h hr hn=>by
 unfold jG at h
 refine cq 6 [7,9] [I x3,.isl false (c_1.Parts.map ac)] 50 ?_
 refine oq 66 (I (len c_1.Parts)) rfl (aW rfl rfl rfl (bb rfl)) ?_
 refine cq 2 [11] [B (decide (x3<(len c_1.Parts)))] 82 ?_
 refine sq h (fun h=>?_) fun h=>?_
 ·refine aq 1 ?_
  refine cq 7 [15,16] [.isl false (c_1.Parts.map ac),I x3] 130 ?_
  obtain⟨e4,he4,h⟩:=bS h
  refine oq 146 (.iptr (.agg [I e4.Op,str e4.Name,I e4.Day,.isl false (e4.Parts.map ac)]) 0) rfl (an rfl rfl rfl (aM rfl rfl (ce e4) rfl he4)) ?_
  refine cq 1 [18] [.agg [I e4.Op,str e4.Name,I e4.Day,.isl false (e4.Parts.map ac)]] 162 ?_
  obtain⟨r5,hr5,h⟩:=bS h
  refine oq 178 (B r5) rfl (co rfl rfl (cM rfl rfl rfl (ca (cT rfl) dD) (Kg slf_Ffdc hr5) (.inr rfl) ec rfl rfl rfl)) ?_
  refine cq 2 [20] [B (!r5)] 194 ?_
  refine sq h (fun h=>?_) fun h=>?_
  ·refine cq 4 [2] [B false] 210 ?_
   exact ai rfl (hr _ (Option.some.inj h).symm _ (qp [B false]))
  ·refine aq 1 ?_
   refine cq 6 [3] [I (ar (x3+1))] 242 ?_
   refine cE ?_
   exact rf [1,3] [1] (ih _ _ h hr hn :)
 ·refine aq 1 ?_
  exact rf [] [] (hn _ (Option.some.inj h).symm :) (hk:=hK)
theorem Qs (slf_Ffdc:Condition→Option Bool)(c_1:Condition)(r:Bool)(h:ql slf_Ffdc c_1=some r):bc (HU slf_Ffdc) Tryz.f224 [false] 0 (tq c_1) (tK r):=by
 show Run _ _ (Md slf_Ffdc c_1 r) [.code Ok] _
 refine rI 21 [(0,.agg [I c_1.Op,str c_1.Name,I c_1.Day,.isl false (c_1.Parts.map ac)])] [] 1 ?_
 unfold ql at h
 refine ck 9 [1,4] [] [1] [] [.hp 1 0 [] 4 0 0,.agg [I c_1.Op,str c_1.Name,I c_1.Day,.isl false (c_1.Parts.map ac)]] [some ⟨0,4,[.agg [I c_1.Op,str c_1.Name,I c_1.Day,.isl false (c_1.Parts.map ac)]]⟩] 49 (by kernel_rfl) ?_
 obtain⟨r2,hr2,h⟩:=bS h
 refine oq 65 (B r2) rfl (cP (U7 hr2)) ?_
 refine cq 2 [6] [B (!r2)] 81 ?_
 refine sq h (fun h=>?_) fun h=>?_
 ·refine cq 4 [2] [B false] 97 ?_
  obtain rfl:=Option.some.inj h
  exact ai rfl (qp [B false])
 ·refine aq 1 ?_
  refine cq 6 [3] [I (0)] 97 ?_
  obtain⟨y6,hy6,hy61,hy62⟩:=bJ h
  refine bD rfl ?_
  refine rf [1,3] [1] (Ja slf_Ffdc c_1 rfl 0 _ hy6 (fun r' e st hq=>by rw[hy61 r' e] at hq;exact hq) fun u6 hu=>?_)
  replace h:=hy62 u6 hu
  refine cq 4 [2] [B true] 17 ?_
  obtain rfl:=Option.some.inj h
  exact ai rfl (qp [B true])
theorem Pf {G:Go.Ln.Ground}:aH Tryz.prog G 224 wO:=jy fun slf_Ffdc g_Ffdc=>gT 1 0 (aD OX (aD g_Ffdc bf)) (Checked.mixed Tryz.checked) Tryz.func224 (fun a r h=>Qs slf_Ffdc a r h)
def uo:Condition→List V:=oA aU
def ui (r:Int):V×List V:=(I r,[])
noncomputable def uM (slf_Ffdj:Condition→Option Int):Ent:=aP [false] uo ui slf_Ffdj
theorem Kd (slf_Ffdj:Condition→Option Int){x}{r}(h:slf_Ffdj x=some r):(uM slf_Ffdj).F (uo x)=some (ui r):=aA (aB cf) h
noncomputable def wU:Ent:=uM (aJ jH)
theorem UU {c_1:Condition}{r}(h:GC c_1=some r):wU.F (uo c_1)=some (ui r):=Kd (aJ jH) h
noncomputable def MS:Code:=ay Tryz.f225
noncomputable def H2 (slf_Ffdj:Condition→Option Int):Env:=bC Tryz.prog [(225,(uM slf_Ffdj))]
def PI (slf_Ffdj:Condition→Option Int)(x:Condition)(r:Int):St→Prop:=QF (H2 slf_Ffdj) Tryz.f225 [false] (uo x) (ui r)
theorem Je (slf_Ffdj:Condition→Option Int)(c_1:Condition):b9 (H2 slf_Ffdj) 0 (PI slf_Ffdj c_1) (cL (cL (cR (cL (cR (cR MS)))))) 0 (jP slf_Ffdj c_1) (fun u=>(sT 21 [(3,I u)] [] 1)) fun x2=>(sT 21 [(1,.hp 1 0 [] 4 0 0),(3,I x2.1),(4,I x2.2)] [⟨0,4,[.agg [I c_1.Op,str c_1.Name,I c_1.Day,.isl false (c_1.Parts.map ac)]]⟩] 2):=dM (wv slf_Ffdj c_1) fun {Q K} hK self ih x2 y h hr hn=>by
 unfold hI at h
 refine cq 6 [5,7] [I x2.2,.isl false (c_1.Parts.map ac)] 50 ?_
 refine oq 66 (I (len c_1.Parts)) rfl (aW rfl rfl rfl (bb rfl)) ?_
 refine cq 2 [9] [B (decide (x2.2<(len c_1.Parts)))] 82 ?_
 refine sq h (fun h=>?_) fun h=>?_
 ·refine aq 1 ?_
  refine cq 7 [12,14,15] [I x2.1,.isl false (c_1.Parts.map ac),I x2.2] 146 ?_
  obtain⟨e3,he3,h⟩:=bS h
  refine oq 162 (.iptr (.agg [I e3.Op,str e3.Name,I e3.Day,.isl false (e3.Parts.map ac)]) 0) rfl (an rfl rfl rfl (aM rfl rfl (ce e3) rfl he3)) ?_
  refine cq 1 [17] [.agg [I e3.Op,str e3.Name,I e3.Day,.isl false (e3.Parts.map ac)]] 178 ?_
  obtain⟨r4,hr4,h⟩:=bS h
  refine oq 194 (I r4) rfl (co rfl rfl (cM rfl rfl rfl (ca (cT rfl) dD) (Kd slf_Ffdj hr4) (.inr rfl) ec rfl rfl rfl)) ?_
  refine cq 9 [3,4] [I (ar (x2.1+r4)),I (ar (x2.2+1))] 274 ?_
  refine cE ?_
  exact rf [1,3,4] [1] (ih _ _ h hr hn :)
 ·refine aq 1 ?_
  exact rf [3] [] (hn _ (Option.some.inj h).symm :) (hk:=hK)
theorem R9 (slf_Ffdj:Condition→Option Int)(c_1:Condition)(r:Int)(h:qF slf_Ffdj c_1=some r):bc (H2 slf_Ffdj) Tryz.f225 [false] 0 (uo c_1) (ui r):=by
 show Run _ _ (PI slf_Ffdj c_1 r) [.code MS] _
 refine rI 21 [(0,.agg [I c_1.Op,str c_1.Name,I c_1.Day,.isl false (c_1.Parts.map ac)])] [] 1 ?_
 unfold qF at h
 refine ck 15 [1,3,4] [] [1] [] [.hp 1 0 [] 4 0 0,I (1),I (0)] [some ⟨0,4,[.agg [I c_1.Op,str c_1.Name,I c_1.Day,.isl false (c_1.Parts.map ac)]]⟩] 65 (by kernel_rfl) ?_
 obtain⟨y5,hy5,hy51,hy52⟩:=bJ h
 refine bD rfl ?_
 refine rf [1,3,4] [1] (Je slf_Ffdj c_1 rfl (1,0) _ hy5 (fun r' e st hq=>by rw[hy51 r' e] at hq;exact hq) fun u5 hu=>?_)
 replace h:=hy52 u5 hu
 refine cq 5 [2] [I u5] 33 ?_
 obtain rfl:=Option.some.inj h
 exact ai rfl (qp [I u5])
theorem Nq {G:Go.Ln.Ground}:aH Tryz.prog G 225 wU:=jy fun slf_Ffdj g_Ffdj=>gT 1 0 (aD g_Ffdj bf) (Checked.mixed Tryz.checked) Tryz.func225 (fun a r h=>R9 slf_Ffdj a r h)
def AB:Condition→List V:=oA aU
def C8 (r:Bool):V×List V:=(B r,[])
noncomputable def zi:Ent:=aP [false] AB C8 fun x=>xF x
theorem Vz {c_1:Condition}{r}(h:xF c_1=some r):zi.F (AB c_1)=some (C8 r):=aA (aB cf) h
noncomputable def MB:Code:=ay Tryz.f194
noncomputable def GI:Env:=bC Tryz.prog [(224,wO),(225,wU)]
def AJ (x:Condition)(r:Bool):St→Prop:=QF GI Tryz.f194 [false] (AB x) (C8 r)
theorem Q2 (c_1:Condition)(r:Bool)(h:xF c_1=some r):bc GI Tryz.f194 [false] 0 (AB c_1) (C8 r):=by
 show Run _ _ (AJ c_1 r) [.code MB] _
 refine rI 10 [(0,.agg [I c_1.Op,str c_1.Name,I c_1.Day,.isl false (c_1.Parts.map ac)])] [] 1 ?_
 unfold xF at h
 refine ck 8 [1,3] [] [1] [] [.hp 1 0 [] 4 0 0,.agg [I c_1.Op,str c_1.Name,I c_1.Day,.isl false (c_1.Parts.map ac)]] [some ⟨0,4,[.agg [I c_1.Op,str c_1.Name,I c_1.Day,.isl false (c_1.Parts.map ac)]]⟩] 49 (by kernel_rfl) ?_
 obtain⟨r2,hr2,h⟩:=bS h
 refine oq 65 (B r2) rfl (cP (Vh hr2)) ?_
 refine cq 1 [5] [B r2] 81 ?_
 obtain⟨y3,hy3,hy31,hy32⟩:=bJ h
 have j3:∀u3,y3=.inr u3→Run GI 0 (AJ c_1 r) (.code (cR (cR MB))::[]) (sT 10 [(2,B u3)] [] 1):=by
  intro u3 hu
  replace h:=hy32 u3 hu
  obtain rfl:=Option.some.inj h
  exact ai rfl (qp [B u3])
 have r3:∀r',y3=.inl r'→∀st,AJ c_1 r' st→(AJ c_1 r) st:=fun r' e st hq=>by rw[hy31 r' e] at hq;exact hq
 replace h:=hy3
 refine sp 5 h rfl (fun h=>?_) fun h=>?_
 ·refine cq 1 [6] [.agg [I c_1.Op,str c_1.Name,I c_1.Day,.isl false (c_1.Parts.map ac)]] 97 ?_
  obtain⟨r4,hr4,h⟩:=bS h
  refine oy 113 (I r4) rfl (cP (UU hr4)) ?_
  refine cq 4 [2] [B (decide (r4≤15))] 161 ?_
  exact rf [2] [] (j3 _ (Option.some.inj h).symm :)
 ·refine cq 6 [2] [B false] 161 ?_
  exact rf [2] [] (j3 _ (Option.some.inj h).symm :)
theorem OI {G:Go.Ln.Ground}:aH Tryz.prog G 194 zi:=gT 1 0 (aD Pf (aD Nq bf)) (Checked.mixed Tryz.checked) Tryz.func194 (fun a r h=>Q2 a r h)
def BT:(Contract×Int)→List V:=cA aG (oA I)
def An (r:Bool):V×List V:=(B r,[])
noncomputable def xO:Ent:=aP [false,false] BT An fun x=>xG x.1 x.2
theorem OE {c_1:Contract}{i_2:Int}{r}(h:xG c_1 i_2=some r):xO.F (BT (c_1,i_2))=some (An r):=aA (aY aQ (aB bO)) h
noncomputable def HA:Code:=ay Tryz.f141
noncomputable abbrev kR:Code:=cR (cR (cR (cR HA)))
noncomputable abbrev od:Code:=cR (cL (cR (cR (cR HA))))
noncomputable abbrev qh:Code:=cR kR
noncomputable abbrev ve:Code:=cR (cL kR)
noncomputable abbrev Ea:Code:=cR (cR (cR qh))
noncomputable def fY:Env:=bC Tryz.prog [(157,mm),(73,ed),(140,rA),(194,zi)]
def cJ (x:Contract×Int)(r:Bool):St→Prop:=QF fY Tryz.f141 [false,false] (BT x) (An r)
theorem Qb (c_1:Contract)(i_2:Int)(r:Bool)(h:xG c_1 i_2=some r):bc fY Tryz.f141 [false,false] 0 (BT (c_1,i_2)) (An r):=by
 show Run _ _ (cJ (c_1,i_2) r) [.code HA] _
 refine rI 114 [(0,.agg [.isl false (c_1.Parties.map str),.isl false (c_1.Clauses.map aa)]),(1,I i_2)] [] 1 ?_
 unfold xG at h
 refine ck 10 [2,9,10] [] [1] [] [.hp 1 0 [] 2 0 0,.isl false (c_1.Clauses.map aa),I i_2] [some ⟨0,2,[.agg [.isl false (c_1.Parties.map str),.isl false (c_1.Clauses.map aa)]]⟩] 81 (by kernel_rfl) ?_
 obtain⟨e3,he3,h⟩:=bS h
 refine oq 97 (.iptr (.agg [str e3.Id,I e3.Kind,I e3.Party,str e3.Action,I e3.Other,I e3.Amount,I e3.When.Op,str e3.When.Name,I e3.When.Day,.isl false (e3.When.Parts.map ac),I e3.Within,str e3.Repair]) 0) rfl (an rfl rfl rfl (aM rfl rfl rfl rfl he3)) ?_
 refine ck 2 [5,12] [] [113] [] [.hp 113 0 [] 12 0 0,.agg [str e3.Id,I e3.Kind,I e3.Party,str e3.Action,I e3.Other,I e3.Amount,I e3.When.Op,str e3.When.Name,I e3.When.Day,.isl false (e3.When.Parts.map ac),I e3.Within,str e3.Repair]] [some ⟨0,12,[.agg [str ([]),I (0),I (0),str ([]),I (0),I (0),I (0),str ([]),I (0),.isl true [],I (0),str ([])]]⟩] 129 (by kernel_rfl) ?_
 refine d9 113 [.agg [str ([]),I (0),I (0),str ([]),I (0),I (0),I (0),str ([]),I (0),.usl 4 (([]).map ap),I (0),str ([])]] rfl rfl (au (fg (au (.refl _) (au (.refl _) (au (.refl _) (au (.refl _) (au (.refl _) (au (.refl _) (au (.refl _) (au (.refl _) (au (.refl _) (au (.nil _) (au (.refl _) (au (.refl _) dz))))))))))))) dz) ?_
 refine ck 6 [14] [] [113] [] [.isl false (c_1.Parties.map str)] [some ⟨2,12,[.agg [str e3.Id,I e3.Kind,I e3.Party,str e3.Action,I e3.Other,I e3.Amount,I e3.When.Op,str e3.When.Name,I e3.When.Day,.isl false (e3.When.Parts.map ac),I e3.Within,str e3.Repair]]⟩] 177 (by kernel_rfl) ?_
 refine oq 193 (I (len c_1.Parties)) rfl (aW rfl rfl rfl (bb rfl)) ?_
 refine cq 7 [6,17] [I (len c_1.Parties),str e3.Id] 241 ?_
 obtain⟨r4,hr4,h⟩:=bS h
 refine oq 257 (B r4) rfl (cP (ol hr4)) ?_
 refine cq 2 [20] [B (!r4)] 289 ?_
 obtain⟨y5,hy5,hy51,hy52⟩:=bJ h
 have j5:∀u5,y5=.inr u5→Run fY 0 (cJ (c_1,i_2) r) (.code od::.code kR::[]) (sT 114 [(1,I i_2),(2,.hp 1 0 [] 2 0 0),(5,.hp 2 0 [] 12 0 0),(60,B u5)] [⟨0,2,[.agg [.isl false (c_1.Parties.map str),.isl false (c_1.Clauses.map aa)]]⟩,⟨0,12,[.agg [str e3.Id,I e3.Kind,I e3.Party,str e3.Action,I e3.Other,I e3.Amount,I e3.When.Op,str e3.When.Name,I e3.When.Day,.isl false (e3.When.Parts.map ac),I e3.Within,str e3.Repair]]⟩] 3):=by
  intro u5 hu
  replace h:=hy52 u5 hu
  refine sq h (fun h=>?_) fun h=>?_
  ·refine cq 4 [4] [B false] 19 ?_
   obtain rfl:=Option.some.inj h
   exact ai rfl (qp [B false])
  ·refine aq 1 ?_
   refine cq 5 [62] [I e3.Amount] 35 ?_
   obtain⟨r6,hr6,h⟩:=bS h
   refine oq 51 (B r6) rfl (cP (cY hr6)) ?_
   refine cq 2 [65] [B (!r6)] 83 ?_
   obtain⟨y7,hy7,hy71,hy72⟩:=bJ h
   have j7:∀u7,y7=.inr u7→Run fY 0 (cJ (c_1,i_2) r) (.code ve::.code qh::[]) (sT 114 [(1,I i_2),(2,.hp 1 0 [] 2 0 0),(5,.hp 2 0 [] 12 0 0),(85,B u7)] [⟨0,2,[.agg [.isl false (c_1.Parties.map str),.isl false (c_1.Clauses.map aa)]]⟩,⟨0,12,[.agg [str e3.Id,I e3.Kind,I e3.Party,str e3.Action,I e3.Other,I e3.Amount,I e3.When.Op,str e3.When.Name,I e3.When.Day,.isl false (e3.When.Parts.map ac),I e3.Within,str e3.Repair]]⟩] 3):=by
    intro u7 hu
    replace h:=hy72 u7 hu
    refine sq h (fun h=>?_) fun h=>?_
    ·refine cq 4 [4] [B false] 19 ?_
     obtain rfl:=Option.some.inj h
     exact ai rfl (qp [B false])
    ·refine aq 1 ?_
     refine cq 7 [88] [B (e3.Repair==([]:ah))] 51 ?_
     refine sq h (fun h=>?_) fun h=>?_
     ·refine cq 4 [4] [B true] 67 ?_
      obtain rfl:=Option.some.inj h
      exact ai rfl (qp [B true])
     ·refine aq 1 ?_
      refine cq 5 [89,91] [.agg [.isl false (c_1.Parties.map str),.isl false (c_1.Clauses.map aa)],str e3.Repair] 99 ?_
      obtain⟨r8,hr8,h⟩:=bS h
      refine oq 115 (I r8) rfl (cP (HQ hr8)) ?_
      refine cq 7 [7,95] [I r8,B (decide (r8≥0))] 179 ?_
      obtain⟨y9,hy9,hy91,hy92⟩:=bJ h
      have j9:∀u9,y9=.inr u9→Run fY 0 (cJ (c_1,i_2) r) (.code Ea::[]) (sT 114 [(4,B u9)] [] 1):=by
       intro u9 hu
       replace h:=hy92 u9 hu
       obtain rfl:=Option.some.inj h
       exact ai rfl (qp [B u9])
      have r9:∀r',y9=.inl r'→∀st,cJ (c_1,i_2) r' st→(cJ (c_1,i_2) r) st:=fun r' e st hq=>by rw[hy91 r' e] at hq;exact hq
      replace h:=hy9
      refine sp 95 h rfl (fun h=>?_) fun h=>?_
      ·refine cq 5 [100] [B (r8 != i_2)] 259 ?_
       obtain⟨y10,hy10,hy101,hy102⟩:=bL h
       have j10:∀u10,y10=.inr u10→Run fY 0 (cJ (c_1,i_2) r) (.code Ea::[]) (sT 114 [(4,B u10)] [] 1):=by
        intro u10 hu
        replace h:=hy102 u10 hu
        exact rf [4] [] (j9 _ (Option.some.inj h).symm :)
       have r10:∀r',y10=.inl r'→∀st,cJ (c_1,i_2) r' st→(cJ (c_1,i_2) r) st:=fun r' e st hq=>r9 r' (hy101 r' e) st hq
       replace h:=hy10
       refine sp 100 h rfl (fun h=>?_) fun h=>?_
       ·refine cq 3 [102,103] [.isl false (c_1.Clauses.map aa),I r8] 307 ?_
        obtain⟨e11,he11,h⟩:=bS h
        refine oy 323 (.iptr (.agg [str e11.Id,I e11.Kind,I e11.Party,str e11.Action,I e11.Other,I e11.Amount,I e11.When.Op,str e11.When.Name,I e11.When.Day,.isl false (e11.When.Parts.map ac),I e11.Within,str e11.Repair]) 0) rfl (an rfl rfl rfl (aM rfl rfl rfl rfl he11)) ?_
        refine cq 5 [109] [B (e11.Kind==1)] 403 ?_
        obtain⟨u12,hu12,h⟩:=lJ h
        have j12:Run fY 0 (cJ (c_1,i_2) r) (.code Ea::[]) (sT 114 [(4,B u12)] [] 1):=by
         exact rf [4] [] (j10 _ (Option.some.inj h).symm :)
        replace h:=hu12
        clear hu12
        refine sp 109 h rfl (fun h=>?_) fun h=>?_
        ·refine cq 6 [4] [B (e3.Kind != 3)] 483 ?_
         subst h
         exact rf [4] [] (j12 :)
        ·refine cq 6 [4] [B false] 483 ?_
         subst h
         exact rf [4] [] (j12 :)
       ·refine cq 15 [4] [B false] 483 ?_
        exact rf [4] [] (j10 _ (Option.some.inj h).symm :)
      ·refine cq 20 [4] [B false] 483 ?_
       exact rf [4] [] (j9 _ (Option.some.inj h).symm :)
   have r7:∀r',y7=.inl r'→∀st,cJ (c_1,i_2) r' st→(cJ (c_1,i_2) r) st:=fun r' e st hq=>by rw[hy71 r' e] at hq;exact hq
   replace h:=hy7
   refine sp 65 h rfl (fun h=>?_) fun h=>?_
   ·refine cq 21 [85] [B true] 403 ?_
    exact rf [1,2,5,85] [1,2] (j7 _ (Option.some.inj h).symm :)
   ·refine cq 2 [67] [I e3.Within] 115 ?_
    obtain⟨r13,hr13,h⟩:=bS h
    refine oy 131 (B r13) rfl (cP (cY hr13)) ?_
    refine cq 3 [71] [B (!r13)] 179 ?_
    obtain⟨u14,hu14,h⟩:=lJ h
    have j14:Run fY 0 (cJ (c_1,i_2) r) (.code ve::.code qh::[]) (sT 114 [(1,I i_2),(2,.hp 1 0 [] 2 0 0),(5,.hp 2 0 [] 12 0 0),(85,B u14)] [⟨0,2,[.agg [.isl false (c_1.Parties.map str),.isl false (c_1.Clauses.map aa)]]⟩,⟨0,12,[.agg [str e3.Id,I e3.Kind,I e3.Party,str e3.Action,I e3.Other,I e3.Amount,I e3.When.Op,str e3.When.Name,I e3.When.Day,.isl false (e3.When.Parts.map ac),I e3.Within,str e3.Repair]]⟩] 3):=by
     exact rf [1,2,5,85] [1,2] (j7 _ (Option.some.inj h).symm :)
    replace h:=hu14
    clear hu14
    refine sp 71 h rfl (fun h=>?_) fun h=>?_
    ·refine cq 15 [85] [B true] 403 ?_
     subst h
     exact rf [1,2,5,85] [1,2] (j14 :)
    ·refine cq 4 [75] [B (e3.Kind != 1)] 243 ?_
     obtain⟨u15,hu15,h⟩:=lJ h
     have j15:Run fY 0 (cJ (c_1,i_2) r) (.code ve::.code qh::[]) (sT 114 [(1,I i_2),(2,.hp 1 0 [] 2 0 0),(5,.hp 2 0 [] 12 0 0),(85,B u15)] [⟨0,2,[.agg [.isl false (c_1.Parties.map str),.isl false (c_1.Clauses.map aa)]]⟩,⟨0,12,[.agg [str e3.Id,I e3.Kind,I e3.Party,str e3.Action,I e3.Other,I e3.Amount,I e3.When.Op,str e3.When.Name,I e3.When.Day,.isl false (e3.When.Parts.map ac),I e3.Within,str e3.Repair]]⟩] 3):=by
      subst h
      exact rf [1,2,5,85] [1,2] (j14 :)
     replace h:=hu15
     clear hu15
     refine sp 75 h rfl (fun h=>?_) fun h=>?_
     ·refine cq 4 [79] [B (e3.Amount != 0)] 307 ?_
      obtain⟨u16,hu16,h⟩:=lJ h
      have j16:Run fY 0 (cJ (c_1,i_2) r) (.code ve::.code qh::[]) (sT 114 [(1,I i_2),(2,.hp 1 0 [] 2 0 0),(5,.hp 2 0 [] 12 0 0),(85,B u16)] [⟨0,2,[.agg [.isl false (c_1.Parties.map str),.isl false (c_1.Clauses.map aa)]]⟩,⟨0,12,[.agg [str e3.Id,I e3.Kind,I e3.Party,str e3.Action,I e3.Other,I e3.Amount,I e3.When.Op,str e3.When.Name,I e3.When.Day,.isl false (e3.When.Parts.map ac),I e3.Within,str e3.Repair]]⟩] 3):=by
       subst h
       exact rf [1,2,5,85] [1,2] (j15 :)
      replace h:=hu16
      clear hu16
      refine sp 79 h rfl (fun h=>?_) fun h=>?_
      ·refine cq 7 [85] [B true] 403 ?_
       subst h
       exact rf [1,2,5,85] [1,2] (j16 :)
      ·refine cq 7 [85] [B (e3.Within != 0)] 403 ?_
       subst h
       exact rf [1,2,5,85] [1,2] (j16 :)
     ·refine cq 11 [85] [B false] 403 ?_
      subst h
      exact rf [1,2,5,85] [1,2] (j15 :)
 have r5:∀r',y5=.inl r'→∀st,cJ (c_1,i_2) r' st→(cJ (c_1,i_2) r) st:=fun r' e st hq=>by rw[hy51 r' e] at hq;exact hq
 replace h:=hy5
 refine sp 20 h rfl (fun h=>?_) fun h=>?_
 ·refine cq 41 [60] [B true] 929 ?_
  exact rf [1,2,5,60] [1,113] (j5 _ (Option.some.inj h).symm :)
 ·refine cq 2 [22] [str e3.Action] 321 ?_
  obtain⟨r17,hr17,h⟩:=bS h
  refine oy 337 (B r17) rfl (cP (ol hr17)) ?_
  refine cq 3 [26] [B (!r17)] 385 ?_
  obtain⟨y18,hy18,hy181,hy182⟩:=bL h
  have j18:∀u18,y18=.inr u18→Run fY 0 (cJ (c_1,i_2) r) (.code od::.code kR::[]) (sT 114 [(1,I i_2),(2,.hp 1 0 [] 2 0 0),(5,.hp 2 0 [] 12 0 0),(60,B u18)] [⟨0,2,[.agg [.isl false (c_1.Parties.map str),.isl false (c_1.Clauses.map aa)]]⟩,⟨0,12,[.agg [str e3.Id,I e3.Kind,I e3.Party,str e3.Action,I e3.Other,I e3.Amount,I e3.When.Op,str e3.When.Name,I e3.When.Day,.isl false (e3.When.Parts.map ac),I e3.Within,str e3.Repair]]⟩] 3):=by
   intro u18 hu
   replace h:=hy182 u18 hu
   exact rf [1,2,5,60] [1,2] (j5 _ (Option.some.inj h).symm :)
  have r18:∀r',y18=.inl r'→∀st,cJ (c_1,i_2) r' st→(cJ (c_1,i_2) r) st:=fun r' e st hq=>r5 r' (hy181 r' e) st hq
  replace h:=hy18
  refine sp 26 h rfl (fun h=>?_) fun h=>?_
  ·refine cq 35 [60] [B true] 929 ?_
   exact rf [1,2,5,60] [1,113] (j18 _ (Option.some.inj h).symm :)
  ·refine cq 2 [28] [I e3.Kind] 417 ?_
   obtain⟨r19,hr19,h⟩:=bS h
   refine oy 433 (B r19) rfl (cP (cY hr19)) ?_
   refine cq 3 [32] [B (!r19)] 481 ?_
   obtain⟨y20,hy20,hy201,hy202⟩:=bL h
   have j20:∀u20,y20=.inr u20→Run fY 0 (cJ (c_1,i_2) r) (.code od::.code kR::[]) (sT 114 [(1,I i_2),(2,.hp 1 0 [] 2 0 0),(5,.hp 2 0 [] 12 0 0),(60,B u20)] [⟨0,2,[.agg [.isl false (c_1.Parties.map str),.isl false (c_1.Clauses.map aa)]]⟩,⟨0,12,[.agg [str e3.Id,I e3.Kind,I e3.Party,str e3.Action,I e3.Other,I e3.Amount,I e3.When.Op,str e3.When.Name,I e3.When.Day,.isl false (e3.When.Parts.map ac),I e3.Within,str e3.Repair]]⟩] 3):=by
    intro u20 hu
    replace h:=hy202 u20 hu
    exact rf [1,2,5,60] [1,2] (j18 _ (Option.some.inj h).symm :)
   have r20:∀r',y20=.inl r'→∀st,cJ (c_1,i_2) r' st→(cJ (c_1,i_2) r) st:=fun r' e st hq=>r18 r' (hy201 r' e) st hq
   replace h:=hy20
   refine sp 32 h rfl (fun h=>?_) fun h=>?_
   ·refine cq 29 [60] [B true] 929 ?_
    exact rf [1,2,5,60] [1,113] (j20 _ (Option.some.inj h).symm :)
   ·refine cq 4 [34,36] [I e3.Party,I (ar ((len c_1.Parties) - 1))] 545 ?_
    obtain⟨r21,hr21,h⟩:=bS h
    refine oy 561 (B r21) rfl (cP (cY hr21)) ?_
    refine cq 3 [40] [B (!r21)] 609 ?_
    obtain⟨y22,hy22,hy221,hy222⟩:=bL h
    have j22:∀u22,y22=.inr u22→Run fY 0 (cJ (c_1,i_2) r) (.code od::.code kR::[]) (sT 114 [(1,I i_2),(2,.hp 1 0 [] 2 0 0),(5,.hp 2 0 [] 12 0 0),(60,B u22)] [⟨0,2,[.agg [.isl false (c_1.Parties.map str),.isl false (c_1.Clauses.map aa)]]⟩,⟨0,12,[.agg [str e3.Id,I e3.Kind,I e3.Party,str e3.Action,I e3.Other,I e3.Amount,I e3.When.Op,str e3.When.Name,I e3.When.Day,.isl false (e3.When.Parts.map ac),I e3.Within,str e3.Repair]]⟩] 3):=by
     intro u22 hu
     replace h:=hy222 u22 hu
     exact rf [1,2,5,60] [1,2] (j20 _ (Option.some.inj h).symm :)
    have r22:∀r',y22=.inl r'→∀st,cJ (c_1,i_2) r' st→(cJ (c_1,i_2) r) st:=fun r' e st hq=>r20 r' (hy221 r' e) st hq
    replace h:=hy22
    refine sp 40 h rfl (fun h=>?_) fun h=>?_
    ·refine cq 21 [60] [B true] 929 ?_
     exact rf [1,2,5,60] [1,113] (j22 _ (Option.some.inj h).symm :)
    ·refine cq 4 [42,44] [I e3.Other,I (ar ((len c_1.Parties) - 1))] 673 ?_
     obtain⟨r23,hr23,h⟩:=bS h
     refine oy 689 (B r23) rfl (cP (cY hr23)) ?_
     refine cq 3 [48] [B (!r23)] 737 ?_
     obtain⟨y24,hy24,hy241,hy242⟩:=bL h
     have j24:∀u24,y24=.inr u24→Run fY 0 (cJ (c_1,i_2) r) (.code od::.code kR::[]) (sT 114 [(1,I i_2),(2,.hp 1 0 [] 2 0 0),(5,.hp 2 0 [] 12 0 0),(60,B u24)] [⟨0,2,[.agg [.isl false (c_1.Parties.map str),.isl false (c_1.Clauses.map aa)]]⟩,⟨0,12,[.agg [str e3.Id,I e3.Kind,I e3.Party,str e3.Action,I e3.Other,I e3.Amount,I e3.When.Op,str e3.When.Name,I e3.When.Day,.isl false (e3.When.Parts.map ac),I e3.Within,str e3.Repair]]⟩] 3):=by
      intro u24 hu
      replace h:=hy242 u24 hu
      exact rf [1,2,5,60] [1,2] (j22 _ (Option.some.inj h).symm :)
     have r24:∀r',y24=.inl r'→∀st,cJ (c_1,i_2) r' st→(cJ (c_1,i_2) r) st:=fun r' e st hq=>r22 r' (hy241 r' e) st hq
     replace h:=hy24
     refine sp 48 h rfl (fun h=>?_) fun h=>?_
     ·refine cq 13 [60] [B true] 929 ?_
      exact rf [1,2,5,60] [1,113] (j24 _ (Option.some.inj h).symm :)
     ·refine cq 7 [55] [B (e3.Party==e3.Other)] 849 ?_
      obtain⟨y25,hy25,hy251,hy252⟩:=bL h
      have j25:∀u25,y25=.inr u25→Run fY 0 (cJ (c_1,i_2) r) (.code od::.code kR::[]) (sT 114 [(1,I i_2),(2,.hp 1 0 [] 2 0 0),(5,.hp 2 0 [] 12 0 0),(60,B u25)] [⟨0,2,[.agg [.isl false (c_1.Parties.map str),.isl false (c_1.Clauses.map aa)]]⟩,⟨0,12,[.agg [str e3.Id,I e3.Kind,I e3.Party,str e3.Action,I e3.Other,I e3.Amount,I e3.When.Op,str e3.When.Name,I e3.When.Day,.isl false (e3.When.Parts.map ac),I e3.Within,str e3.Repair]]⟩] 3):=by
       intro u25 hu
       replace h:=hy252 u25 hu
       exact rf [1,2,5,60] [1,2] (j24 _ (Option.some.inj h).symm :)
      have r25:∀r',y25=.inl r'→∀st,cJ (c_1,i_2) r' st→(cJ (c_1,i_2) r) st:=fun r' e st hq=>r24 r' (hy251 r' e) st hq
      replace h:=hy25
      refine sp 55 h rfl (fun h=>?_) fun h=>?_
      ·refine cq 6 [60] [B true] 929 ?_
       exact rf [1,2,5,60] [1,113] (j25 _ (Option.some.inj h).symm :)
      ·refine cq 2 [57] [.agg [I e3.When.Op,str e3.When.Name,I e3.When.Day,.isl false (e3.When.Parts.map ac)]] 881 ?_
       obtain⟨r26,hr26,h⟩:=bS h
       refine oy 897 (B r26) rfl (cP (Vz hr26)) ?_
       refine cq 3 [60] [B (!r26)] 929 ?_
       exact rf [1,2,5,60] [1,113] (j25 _ (Option.some.inj h).symm :)
theorem PN {G:Go.Ln.Ground}:aH Tryz.prog G 141 xO:=gT 2 0 (aD pw (aD eU (aD EI (aD OI bf)))) (Checked.mixed Tryz.checked) Tryz.func141 (fun a r h=>Qb a.1 a.2 r h)
def zI:((List ah)×ah)→List V:=cA (CV 1 str) (oA str)
def Cf (r:(List ah)):V×List V:=(.usl 1 (r.map str),[.dead])
noncomputable def rS:Ent:=aP [true,false] zI Cf fun x=>uI x.1 x.2
theorem Ie {l_8:List ah}{s_9:ah}{r}(h:uI l_8 s_9=some r):rS.F (zI (l_8,s_9))=some (Cf r):=aA (aY (oc bm) (aB bm)) h
noncomputable def oG:Code:=ay Tryz.f180
noncomputable def tJ:Env:=bC Tryz.prog []
def pW (x:(List ah)×ah)(r:(List ah)):St→Prop:=QF tJ Tryz.f180 [true,false] (zI x) (Cf r)
theorem Jj (l_8:List ah)(s_9:ah):b9 tJ 1 (pW (l_8,s_9)) (cL (cL (cL (cR (cR oG))))) 0 (qM l_8 s_9) (fun u=>(sO 45 [(0,.hs 2 0 [] 1 0 (u.2.2.map str).length),(1,str u.1),(5,I u.2.1)] [none,some ⟨0,1,u.2.2.map str⟩] 3)) fun x3=>(sO 45 [(0,.hs 2 0 [] 1 0 (l_8.map str).length),(1,str s_9),(5,I x3)] [none,some ⟨0,1,l_8.map str⟩] 3):=dM (vU l_8 s_9) fun {Q K} hK self ih x3 y h hr hn=>by
 unfold jo at h
 refine cq 5 [6,7] [I x3,.hs 2 0 [] 1 0 (l_8.map str).length] 35 ?_
 refine oq 51 (I (len l_8)) rfl (aW rfl rfl rfl (vm (f:=str) (xs:=l_8) rfl rfl)) ?_
 refine cq 2 [10] [B (decide (x3<(len l_8)))] 83 ?_
 obtain⟨y4,hy4,hy41,hy42⟩:=bL h
 have j4:∀u4,y4=.inr u4→Run tJ 1 Q (.code (cR (cL (cL (cL (cL (cR (cR oG)))))))::.code (cR (cL (cL (cL (cR (cR oG))))))::.lp (cL (cL (cL (cR (cR oG)))))::.blk 0::K) (sO 45 [(0,.hs 2 0 [] 1 0 (l_8.map str).length),(1,str s_9),(5,I x3),(17,B u4)] [none,some ⟨0,1,l_8.map str⟩] 3):=by
  intro u4 hu
  replace h:=hy42 u4 hu
  refine sq h (fun h=>?_) fun h=>?_
  ·refine aq 1 ?_
   refine cq 7 [5] [I (ar (x3+1))] 51 ?_
   refine cE ?_
   exact rg [0,1,5] [52,2] (ih _ _ h hr hn :)
  ·refine aq 1 ?_
   exact rg [0,1,5] [4,2] (hn _ (Option.some.inj h).symm :) (hk:=hK)
 have r4:∀r',y4=.inl r'→∀st,pW (l_8,s_9) r' st→Q st:=fun r' e st hq=>hr r' (hy41 r' e) st hq
 replace h:=hy4
 refine sp 10 h rfl (fun h=>?_) fun h=>?_
 ·refine cq 2 [11,12] [.hs 2 0 [] 1 0 (l_8.map str).length,I x3] 115 ?_
  obtain⟨e5,he5,h⟩:=bS h
  refine oy 131 (.hp 2 0 [] 1 (0+Int.toNat x3) 0) rfl (an rfl rfl rfl (gV (f:=str) (xs:=l_8) rfl rfl rfl he5)) ?_
  refine oy 147 (str e5) rfl (aO rfl (pi (path:=[]) rfl rfl rfl bd (fP (f:=str) (xs:=l_8) he5) rfl rfl rfl)) ?_
  refine cq 4 [17] [B (Op.bytesLess e5 s_9)] 195 ?_
  exact rg [0,1,5,17] [196,2] (j4 _ (Option.some.inj h).symm :)
 ·refine cq 8 [17] [B false] 195 ?_
  exact rg [0,1,5,17] [196,2] (j4 _ (Option.some.inj h).symm :)
theorem Q7 (l_8:List ah)(s_9:ah)(r:(List ah))(h:uI l_8 s_9=some r):bc tJ Tryz.f180 [true,false] 1 (zI (l_8,s_9)) (Cf r):=by
 show Run _ _ (pW (l_8,s_9) r) [.code oG] _
 refine rI 45 [(0,.hs 1 0 [] 1 0 (l_8.map str).length),(1,str s_9)] [(1,some ⟨0,1,l_8.map str⟩)] 2 ?_
 unfold uI at h
 refine cq 10 [5] [I (0)] 34 ?_
 obtain⟨y6,hy6,hy61,hy62⟩:=bJ h
 refine bD rfl ?_
 refine rg [0,1,5] [35,1] (Jj l_8 s_9 rfl 0 _ hy6 (fun r' e st hq=>by rw[hy61 r' e] at hq;exact hq) fun u6 hu=>?_)
 replace h:=hy62 u6 hu
 refine cq 5 [20,21] [I u6.2.1,.hs 2 0 [] 1 0 (u6.2.2.map str).length] 35 ?_
 refine oq 51 (I (len u6.2.2)) rfl (aW rfl rfl rfl (vm (f:=str) (xs:=u6.2.2) rfl rfl)) ?_
 refine cq 2 [24] [B (decide (u6.2.1<(len u6.2.2)))] 83 ?_
 obtain⟨y7,hy7,hy71,hy72⟩:=bJ h
 have j7:∀u7,y7=.inr u7→Run tJ 1 (pW (l_8,s_9) r) (.code (cR (cL (cR (cR (cR oG)))))::.code (cR (cR (cR (cR oG))))::[]) (sO 45 [(0,.hs 2 0 [] 1 0 (u6.2.2.map str).length),(1,str u6.1),(5,I u6.2.1),(31,B u7)] [none,some ⟨0,1,u6.2.2.map str⟩] 3):=by
  intro u7 hu
  replace h:=hy72 u7 hu
  refine sq h (fun h=>?_) fun h=>?_
  ·refine cq 5 [4] [.hs 2 0 [] 1 0 (u6.2.2.map str).length] 35 ?_
   obtain rfl:=Option.some.inj h
   exact ai rfl ⟨_,fin (vs:=[.hs 2 0 [] 1 0 (u6.2.2.map str).length]) rfl (fF (fk rfl (cN rfl rfl)) et) rfl (rq rfl (nT rfl) (eZ fM)),sE fC⟩
  ·refine aq 1 ?_
   refine aq 1 ?_
   refine d7 [0,0,0,6,15,0,32,127,0,0,768,2047,4095] rfl (by decide +kernel) ?_
   refine dq [] [] (.hs 3 0 [] 1 0 0) rfl (f8 rfl (sG (f:=I) (xs:=[]) (z:=str ([])) (es:=[]) (ws:=[]) rfl rfl rfl (by decide) rfl (eo rfl) rfl)) ?_
   refine dk 2 [35,34] [I u6.2.1,.hs 2 0 [] 1 0 (u6.2.2.map str).length] ?_
   obtain⟨s8,hs8,h⟩:=bS h
   refine dq [2] [] (.hs 2 0 [] 1 (0+Int.toNat (0)) (Int.toNat u6.2.1 - Int.toNat (0))) rfl (gi rfl rfl rfl rfl (qI (f:=str) (xs:=u6.2.2) rfl rfl rfl rfl rfl hs8)) ?_
   obtain⟨p9,hp9,h⟩:=bS h
   obtain⟨a10,ha10,h⟩:=bS h
   refine dq [3,2] [3] (.hs 67 0 [] 1 0 (a10.map str).length) rfl (oQ rfl rfl rfl rfl rfl (uH (path:=[]) (es0:=[]) (f:=str) (xs:=([]:List ah)) (ys:=p9) rfl rfl (JV (path:=[]) (f:=str) (xs:=u6.2.2) rfl rfl bd hp9 kE) rfl rfl rfl rfl rfl (by decide) js ha10 rfl xd)) ?_ (F5 rfl (F3 (path:=[]) (f:=str) (xs:=u6.2.2) rfl rfl bd kE rfl))
   refine dk 1 [38] [str u6.1] ?_
   refine dq [] [] (.hs 99 0 [] 1 0 1) rfl (f8 rfl (sG (f:=I) (xs:=[]) (z:=str ([])) (es:=[str u6.1]) (ws:=[str u6.1]) rfl rfl rfl (by decide) rfl (eo rfl) rfl)) ?_
   obtain⟨a11,ha11,h⟩:=bS h
   refine dq [67,99] [67] (.hs 115 0 [] 1 0 (a11.map str).length) rfl (oQ rfl rfl rfl rfl rfl (uH (path:=[]) (f:=str) (xs:=a10) (ys:=[u6.1]) rfl rfl (DP rfl rfl rfl) rfl rfl rfl bd rfl (by decide) js ha11 rfl xd)) ?_ (F5 rfl (F3 (path:=[]) (f:=str) (xs:=[u6.1]) rfl rfl bd kE rfl))
   refine dk 2 [42,41] [I u6.2.1,.hs 2 0 [] 1 0 (u6.2.2.map str).length] ?_
   obtain⟨s12,hs12,h⟩:=bS h
   refine dq [2] [] (.hs 2 0 [] 1 (0+Int.toNat u6.2.1) (Int.toNat (len u6.2.2) - Int.toNat u6.2.1)) rfl (gi rfl rfl rfl rfl (qI (f:=str) (xs:=u6.2.2) rfl rfl rfl rfl (Qi rfl) hs12)) ?_
   obtain⟨p13,hp13,h⟩:=bS h
   obtain⟨a14,ha14,h⟩:=bS h
   refine dq [115,2] [115] (.hs 179 0 [] 1 0 (a14.map str).length) rfl (oQ rfl rfl rfl rfl rfl (uH (path:=[]) (f:=str) (xs:=a11) (ys:=p13) rfl rfl (JV (path:=[]) (f:=str) (xs:=u6.2.2) rfl rfl bd hp13 kE) rfl rfl rfl bd rfl (by decide) js ha14 rfl xd)) ?_ (F5 rfl (F3 (path:=[]) (f:=str) (xs:=u6.2.2) rfl rfl bd kE rfl))
   refine dk 1 [4] [.hs 179 0 [] 1 0 (a14.map str).length] ?_
   refine de 211 rfl rfl ?_
   obtain rfl:=Option.some.inj h
   exact ai rfl ⟨_,fin (vs:=[.hs 179 0 [] 1 0 (a14.map str).length]) rfl (fF (fk rfl (cN rfl rfl)) et) rfl (rq rfl (nT rfl) (eZ fM)),sE fC⟩
 have r7:∀r',y7=.inl r'→∀st,pW (l_8,s_9) r' st→(pW (l_8,s_9) r) st:=fun r' e st hq=>by rw[hy71 r' e] at hq;exact hq
 replace h:=hy7
 refine sp 24 h rfl (fun h=>?_) fun h=>?_
 ·refine cq 2 [25,26] [.hs 2 0 [] 1 0 (u6.2.2.map str).length,I u6.2.1] 115 ?_
  obtain⟨e15,he15,h⟩:=bS h
  refine oy 131 (.hp 2 0 [] 1 (0+Int.toNat u6.2.1) 0) rfl (an rfl rfl rfl (gV (f:=str) (xs:=u6.2.2) rfl rfl rfl he15)) ?_
  refine oy 147 (str e15) rfl (aO rfl (pi (path:=[]) rfl rfl rfl bd (fP (f:=str) (xs:=u6.2.2) he15) rfl rfl rfl)) ?_
  refine cq 4 [31] [B (e15==u6.1)] 195 ?_
  exact rg [0,1,5,31] [196,2] (j7 _ (Option.some.inj h).symm :)
 ·refine cq 8 [31] [B false] 195 ?_
  exact rg [0,1,5,31] [196,2] (j7 _ (Option.some.inj h).symm :)
theorem E7 {G:Go.Ln.Ground}:aH Tryz.prog G 180 rS:=gT 2 1 bf (Checked.mixed Tryz.checked) Tryz.func180 (fun a r h=>Q7 a.1 a.2 r h)
def uG:((List ah)×Condition)→List V:=cA (CV 1 str) (oA aU)
def tp (r:(List ah)):V×List V:=(.usl 1 (r.map str),[.dead])
noncomputable def ta (slf_Ffdg:((List ah)×Condition)→Option (List ah)):Ent:=aP [true,false] uG tp slf_Ffdg
theorem JR (slf_Ffdg:((List ah)×Condition)→Option (List ah)){x}{r}(h:slf_Ffdg x=some r):(ta slf_Ffdg).F (uG x)=some (tp r):=aA (aY (oc bm) (aB cf)) h
noncomputable def yz:Ent:=ta (aJ ji)
theorem Mp {l_4:List ah}{c_5:Condition}{r}(h:Iy l_4 c_5=some r):yz.F (uG (l_4,c_5))=some (tp r):=JR (aJ ji) h
noncomputable def No:Code:=ay Tryz.f179
noncomputable def Hr (slf_Ffdg:((List ah)×Condition)→Option (List ah)):Env:=bC Tryz.prog [(180,rS),(179,(ta slf_Ffdg))]
def OY (slf_Ffdg:((List ah)×Condition)→Option (List ah))(x:(List ah)×Condition)(r:(List ah)):St→Prop:=QF (Hr slf_Ffdg) Tryz.f179 [true,false] (uG x) (tp r)
theorem Jm (slf_Ffdg:((List ah)×Condition)→Option (List ah))(l_4:List ah)(c_5:Condition):b9 (Hr slf_Ffdg) 1 (OY slf_Ffdg (l_4,c_5)) (cL (cL (cR (cL (cR (cR No)))))) 0 (jW slf_Ffdg l_4 c_5) (fun u=>(sO 28 [(0,.hs 2 0 [] 1 0 (u.map str).length)] [none,some ⟨0,1,u.map str⟩] 3)) fun x4=>(sO 28 [(0,.hs 2 0 [] 1 0 (x4.2.map str).length),(3,.hp 3 0 [] 4 0 0),(5,I x4.1)] [none,some ⟨0,1,x4.2.map str⟩,some ⟨0,4,[.agg [I c_5.Op,str c_5.Name,I c_5.Day,.isl false (c_5.Parts.map ac)]]⟩] 4):=dM (we slf_Ffdg l_4 c_5) fun {Q K} hK self ih x4 y h hr hn=>by
 unfold ia at h
 refine cq 6 [13,15] [I x4.1,.isl false (c_5.Parts.map ac)] 52 ?_
 refine oq 68 (I (len c_5.Parts)) rfl (aW rfl rfl rfl (bb rfl)) ?_
 refine cq 2 [17] [B (decide (x4.1<(len c_5.Parts)))] 84 ?_
 refine sq h (fun h=>?_) fun h=>?_
 ·refine aq 1 ?_
  refine cq 7 [20,22,23] [.hs 2 0 [] 1 0 (x4.2.map str).length,.isl false (c_5.Parts.map ac),I x4.1] 148 ?_
  obtain⟨e5,he5,h⟩:=bS h
  refine oq 164 (.iptr (.agg [I e5.Op,str e5.Name,I e5.Day,.isl false (e5.Parts.map ac)]) 0) rfl (an rfl rfl rfl (aM rfl rfl (ce e5) rfl he5)) ?_
  refine cq 1 [25] [.agg [I e5.Op,str e5.Name,I e5.Day,.isl false (e5.Parts.map ac)]] 180 ?_
  obtain⟨r6,hr6,h⟩:=bS h
  refine oq 196 (.hs 180 0 [] 1 0 (r6.map str).length) rfl (co rfl rfl (cM rfl rfl rfl (sI (ph rfl (kr (path:=[]) rfl rfl bd rfl)) (ca (cT rfl) dD)) (JR slf_Ffdg hr6) (.inr rfl) (ry rfl rfl rfl li ec) rfl rfl rfl)) ?_
  refine cq 8 [0,5] [.hs 180 0 [] 1 0 (r6.map str).length,I (ar (x4.1+1))] 260 ?_
  refine cE ?_
  exact rg [0,3,5] [261,180,3] (ih _ _ h hr hn :)
 ·refine aq 1 ?_
  exact rg [0] [85,2] (hn _ (Option.some.inj h).symm :) (hk:=hK)
theorem QH (slf_Ffdg:((List ah)×Condition)→Option (List ah))(l_4:List ah)(c_5:Condition)(r:(List ah))(h:qR slf_Ffdg l_4 c_5=some r):bc (Hr slf_Ffdg) Tryz.f179 [true,false] 1 (uG (l_4,c_5)) (tp r):=by
 show Run _ _ (OY slf_Ffdg (l_4,c_5) r) [.code No] _
 refine rI 28 [(0,.hs 1 0 [] 1 0 (l_4.map str).length),(1,.agg [I c_5.Op,str c_5.Name,I c_5.Day,.isl false (c_5.Parts.map ac)])] [(1,some ⟨0,1,l_4.map str⟩)] 2 ?_
 unfold qR at h
 refine ck 12 [3,8] [] [2] [] [.hp 2 0 [] 4 0 0,B (c_5.Op==2)] [some ⟨0,4,[.agg [I c_5.Op,str c_5.Name,I c_5.Day,.isl false (c_5.Parts.map ac)]]⟩] 82 (by kernel_rfl) ?_
 refine sq h (fun h=>?_) fun h=>?_
 ·refine cq 5 [9,11] [.hs 1 0 [] 1 0 (l_4.map str).length,str c_5.Name] 130 ?_
  obtain⟨r3,hr3,h⟩:=bS h
  refine oq 146 (.hs 130 0 [] 1 0 (r3.map str).length) rfl (co rfl rfl (cM rfl rfl rfl (sI (ph rfl (kr (path:=[]) rfl rfl bd rfl)) (ca (cT rfl) dD)) (Ie hr3) (.inr rfl) (ry rfl rfl rfl li ec) rfl rfl rfl)) ?_
  refine cq 2 [4] [.hs 130 0 [] 1 0 (r3.map str).length] 162 ?_
  obtain rfl:=Option.some.inj h
  exact ai rfl ⟨_,fin (vs:=[.hs 130 0 [] 1 0 (r3.map str).length]) rfl (fF (fk rfl (cN rfl rfl)) et) rfl (rq rfl (nT rfl) (eZ fM)),sE fC⟩
 ·refine aq 1 ?_
  refine cq 6 [5] [I (0)] 98 ?_
  obtain⟨y7,hy7,hy71,hy72⟩:=bJ h
  refine bD rfl ?_
  refine rg [0,3,5] [99,1,2] (Jm slf_Ffdg l_4 c_5 rfl (0,l_4) _ hy7 (fun r' e st hq=>by rw[hy71 r' e] at hq;exact hq) fun u7 hu=>?_)
  replace h:=hy72 u7 hu
  refine cq 5 [4] [.hs 2 0 [] 1 0 (u7.map str).length] 35 ?_
  obtain rfl:=Option.some.inj h
  exact ai rfl ⟨_,fin (vs:=[.hs 2 0 [] 1 0 (u7.map str).length]) rfl (fF (fk rfl (cN rfl rfl)) et) rfl (rq rfl (nT rfl) (eZ fM)),sE fC⟩
theorem PO {G:Go.Ln.Ground}:aH Tryz.prog G 179 yz:=jy fun slf_Ffdg g_Ffdg=>gT 2 1 (aD E7 (aD g_Ffdg bf)) (Checked.mixed Tryz.checked) Tryz.func179 (fun a r h=>QH slf_Ffdg a.1 a.2 r h)
def zw:Contract→List V:=oA aG
def CX (r:(List ah)):V×List V:=(.usl 1 (r.map str),[])
noncomputable def sH:Ent:=aP [false] zw CX fun x=>nu x
theorem PP {c_1:Contract}{r}(h:nu c_1=some r):sH.F (zw c_1)=some (CX r):=aA (aB aQ) h
noncomputable def MF:Code:=ay Tryz.f116
noncomputable def HO:Env:=bC Tryz.prog [(180,rS),(179,yz)]
def Mc (x:Contract)(r:(List ah)):St→Prop:=QF HO Tryz.f116 [false] (zw x) (CX r)
theorem IO (c_1:Contract):b9 HO 0 (Mc c_1) (cL (cL (cR (cL (cR (cR MF)))))) 0 (kX c_1) (fun u=>(sT 29 [(3,.hs 1 0 [] 1 0 (u.map str).length)] [⟨0,1,u.map str⟩] 2)) fun x2=>(sT 29 [(1,.hp 1 0 [] 2 0 0),(3,.hs 2 0 [] 1 0 (x2.2.map str).length),(4,I x2.1)] [⟨0,2,[.agg [.isl false (c_1.Parties.map str),.isl false (c_1.Clauses.map aa)]]⟩,⟨0,1,x2.2.map str⟩] 3):=dM (vC c_1) fun {Q K} hK self ih x2 y h hr hn=>by
 unfold jv at h
 refine cq 6 [6,8] [I x2.1,.isl false (c_1.Clauses.map aa)] 51 ?_
 refine oq 67 (I (len c_1.Clauses)) rfl (aW rfl rfl rfl (bb rfl)) ?_
 refine cq 2 [10] [B (decide (x2.1<(len c_1.Clauses)))] 83 ?_
 refine sq h (fun h=>?_) fun h=>?_
 ·refine aq 1 ?_
  refine aq 2 ?_
  refine d7 [0,0,2,0,14,30,62,127,0,256,0,1792,3840,7936,16383,32767] rfl (by decide +kernel) ?_
  refine dk 1 [13] [.hs 2 0 [] 1 0 (x2.2.map str).length] ?_
  refine dq [1] [] (.hp 1 0 [] 2 0 1) rfl (al rfl rfl rfl) ?_
  refine dq [1] [] (.isl false (c_1.Clauses.map aa)) rfl (aO rfl rfl) ?_
  refine dk 1 [16] [I x2.1] ?_
  obtain⟨e3,he3,h⟩:=bS h
  refine dq [] [] (.iptr (.agg [str e3.Id,I e3.Kind,I e3.Party,str e3.Action,I e3.Other,I e3.Amount,I e3.When.Op,str e3.When.Name,I e3.When.Day,.isl false (e3.When.Parts.map ac),I e3.Within,str e3.Repair]) 0) rfl (an rfl rfl rfl (aM rfl rfl rfl rfl he3)) ?_
  refine dq [] [] (.iptr (.agg [str e3.Id,I e3.Kind,I e3.Party,str e3.Action,I e3.Other,I e3.Amount,I e3.When.Op,str e3.When.Name,I e3.When.Day,.isl false (e3.When.Parts.map ac),I e3.Within,str e3.Repair]) 3) rfl (al rfl rfl rfl) ?_
  refine dq [] [] (str e3.Action) rfl (aO rfl rfl) ?_
  obtain⟨r4,hr4,h⟩:=bS h
  refine dq [2] [2] (.hs 195 0 [] 1 0 (r4.map str).length) rfl (co rfl rfl (cM rfl rfl rfl (sI (ph rfl (kr (path:=[]) rfl rfl bd rfl)) (ca (cT rfl) dD)) (Ie hr4) (.inr rfl) (ry rfl rfl rfl li ec) rfl rfl rfl)) ?_ (dj rfl rfl rfl rfl (sI (ph rfl (kr (path:=[]) rfl rfl bd rfl)) (ca (cT rfl) dD)) (Ie hr4) (.inr rfl) rfl)
  refine dq [1] [] (.hp 1 0 [] 2 0 1) rfl (al rfl rfl rfl) ?_
  refine dq [1] [] (.isl false (c_1.Clauses.map aa)) rfl (aO rfl rfl) ?_
  refine dk 1 [23] [I x2.1] ?_
  obtain⟨e5,he5,h⟩:=bS h
  refine dq [] [] (.iptr (.agg [str e5.Id,I e5.Kind,I e5.Party,str e5.Action,I e5.Other,I e5.Amount,I e5.When.Op,str e5.When.Name,I e5.When.Day,.isl false (e5.When.Parts.map ac),I e5.Within,str e5.Repair]) 0) rfl (an rfl rfl rfl (aM rfl rfl rfl rfl he5)) ?_
  refine dq [] [] (.iptr (.agg [str e5.Id,I e5.Kind,I e5.Party,str e5.Action,I e5.Other,I e5.Amount,I e5.When.Op,str e5.When.Name,I e5.When.Day,.isl false (e5.When.Parts.map ac),I e5.Within,str e5.Repair]) 6) rfl (al rfl rfl rfl) ?_
  refine dq [] [] (.agg [I e5.When.Op,str e5.When.Name,I e5.When.Day,.isl false (e5.When.Parts.map ac)]) rfl (aO rfl rfl) ?_
  obtain⟨r6,hr6,h⟩:=bS h
  refine dq [195] [195] (.hs 307 0 [] 1 0 (r6.map str).length) rfl (co rfl rfl (cM rfl rfl rfl (sI (ph rfl (kr (path:=[]) rfl rfl bd rfl)) (ca (cT rfl) dD)) (Mp hr6) (.inr rfl) (ry rfl rfl rfl li ec) rfl rfl rfl)) ?_ (dj rfl rfl rfl rfl (sI (ph rfl (kr (path:=[]) rfl rfl bd rfl)) (ca (cT rfl) dD)) (Mp hr6) (.inr rfl) rfl)
  refine dk 1 [3] [.hs 307 0 [] 1 0 (r6.map str).length] ?_
  refine de 339 rfl rfl ?_
  refine cq 6 [4] [I (ar (x2.1+1))] 387 ?_
  refine cE ?_
  exact rf [1,3,4] [1,307] (ih _ _ h hr hn :)
 ·refine aq 1 ?_
  exact rf [3] [2] (hn _ (Option.some.inj h).symm :) (hk:=hK)
theorem Q4 (c_1:Contract)(r:(List ah))(h:nu c_1=some r):bc HO Tryz.f116 [false] 0 (zw c_1) (CX r):=by
 show Run _ _ (Mc c_1 r) [.code MF] _
 refine rI 29 [(0,.agg [.isl false (c_1.Parties.map str),.isl false (c_1.Clauses.map aa)])] [] 1 ?_
 unfold nu at h
 refine ck 7 [1] [] [1] [] [.hp 1 0 [] 2 0 0] [some ⟨0,2,[.agg [.isl false (c_1.Parties.map str),.isl false (c_1.Clauses.map aa)]]⟩] 33 (by kernel_rfl) ?_
 refine oq 49 (.hs 33 0 [] 1 0 0) rfl (f8 rfl (sG (f:=I) (xs:=[]) (z:=str ([])) (es:=[]) (ws:=[]) rfl rfl rfl (by decide) rfl (eo rfl) rfl)) ?_
 refine cq 8 [3,4] [.hs 33 0 [] 1 0 0,I (0)] 81 ?_
 obtain⟨y7,hy7,hy71,hy72⟩:=bJ h
 refine bD rfl ?_
 refine rf [1,3,4] [1,33] (IO c_1 rfl (0,[]) _ hy7 (fun r' e st hq=>by rw[hy71 r' e] at hq;exact hq) fun u7 hu=>?_)
 replace h:=hy72 u7 hu
 refine cq 5 [2] [.hs 1 0 [] 1 0 (u7.map str).length] 34 ?_
 obtain rfl:=Option.some.inj h
 exact ai rfl ⟨_,fin (vs:=[.hs 1 0 [] 1 0 (u7.map str).length]) rfl (fF (fk rfl (cN rfl rfl)) et) rfl (eZ fM),fC⟩
theorem E6 {G:Go.Ln.Ground}:aH Tryz.prog G 116 sH:=gT 1 0 (aD E7 (aD PO bf)) (Checked.mixed Tryz.checked) Tryz.func116 (fun a r h=>Q4 a r h)
def BN:Contract→List V:=oA aG
def BC (r:Bool):V×List V:=(B r,[])
noncomputable def yw:Ent:=aP [false] BN BC fun x=>yu x
theorem VZ {c_1:Contract}{r}(h:yu c_1=some r):yw.F (BN c_1)=some (BC r):=aA (aB aQ) h
noncomputable def zM:Code:=ay Tryz.f72
noncomputable abbrev vo:Code:=cL (cL (cR (cL (cR (cR zM)))))
noncomputable def uh:Env:=bC Tryz.prog [(73,ed),(140,rA),(141,xO),(116,sH),(139,yq)]
def qb (x:Contract)(r:Bool):St→Prop:=QF uh Tryz.f72 [false] (BN x) (BC r)
theorem I7 (c_1:Contract):b9 uh 0 (qb c_1) vo 0 (jT c_1) (fun u=>(sT 41 [(1,.hp 1 0 [] 2 0 0)] [⟨0,2,[.agg [.isl false (c_1.Parties.map str),.isl false (c_1.Clauses.map aa)]]⟩] 2)) fun x4=>(sT 41 [(1,.hp 1 0 [] 2 0 0),(3,I x4)] [⟨0,2,[.agg [.isl false (c_1.Parties.map str),.isl false (c_1.Clauses.map aa)]]⟩] 2):=dM (vE c_1) fun {Q K} hK self ih x4 y h hr hn=>by
 unfold jm at h
 refine cq 6 [14,16] [I x4,.isl false (c_1.Clauses.map aa)] 50 ?_
 refine oq 66 (I (len c_1.Clauses)) rfl (aW rfl rfl rfl (bb rfl)) ?_
 refine cq 2 [18] [B (decide (x4<(len c_1.Clauses)))] 82 ?_
 refine sq h (fun h=>?_) fun h=>?_
 ·refine aq 1 ?_
  refine aq 3 ?_
  refine d7 [0,0,2,0,14,30,62,127,0,511,1023,2047,2047,8191,16383,32767] rfl (by decide +kernel) ?_
  refine dq [1] [] (.agg [.isl false (c_1.Parties.map str),.isl false (c_1.Clauses.map aa)]) rfl (aO rfl rfl) ?_
  refine dq [1] [] (.hp 1 0 [] 2 0 1) rfl (al rfl rfl rfl) ?_
  refine dq [1] [] (.isl false (c_1.Clauses.map aa)) rfl (aO rfl rfl) ?_
  refine dk 1 [24] [I x4] ?_
  obtain⟨e5,he5,h⟩:=bS h
  refine dq [] [] (.iptr (.agg [str e5.Id,I e5.Kind,I e5.Party,str e5.Action,I e5.Other,I e5.Amount,I e5.When.Op,str e5.When.Name,I e5.When.Day,.isl false (e5.When.Parts.map ac),I e5.Within,str e5.Repair]) 0) rfl (an rfl rfl rfl (aM rfl rfl rfl rfl he5)) ?_
  refine dq [] [] (.iptr (.agg [str e5.Id,I e5.Kind,I e5.Party,str e5.Action,I e5.Other,I e5.Amount,I e5.When.Op,str e5.When.Name,I e5.When.Day,.isl false (e5.When.Parts.map ac),I e5.Within,str e5.Repair]) 0) rfl (al rfl rfl rfl) ?_
  refine dq [] [] (str e5.Id) rfl (aO rfl rfl) ?_
  obtain⟨r6,hr6,h⟩:=bS h
  refine dq [] [] (I r6) rfl (cP (HQ hr6)) ?_ (dj rfl rfl rfl rfl (ca (cT rfl) (ca (cT rfl) dD)) (HQ hr6) (.inr rfl) rfl)
  refine dk 3 [31,30,29] [B (r6 != x4),B (r6 != x4),I x4] ?_
  obtain⟨y7,hy7,hy71,hy72⟩:=bL h
  have j7:∀u7,y7=.inr u7→Run uh 0 Q (.code (cR (cL (cL (cR vo))))::.blk 1::.code (cR (cR vo))::.lp vo::.blk 0::K) (sT 41 [(1,.hp 1 0 [] 2 0 0),(3,I x4),(36,B u7)] [⟨0,2,[.agg [.isl false (c_1.Parties.map str),.isl false (c_1.Clauses.map aa)]]⟩] 2):=by
   intro u7 hu
   replace h:=hy72 u7 hu
   refine sq h (fun h=>?_) fun h=>?_
   ·refine cq 4 [2] [B false] 18 ?_
    exact ai rfl (hr _ (Option.some.inj h).symm _ (qp [B false]))
   ·refine aq 1 ?_
    refine cq 6 [3] [I (ar (x4+1))] 50 ?_
    refine cE ?_
    exact rf [1,3] [1] (ih _ _ h hr hn :)
  have r7:∀r',y7=.inl r'→∀st,qb c_1 r' st→Q st:=fun r' e st hq=>hr r' (hy71 r' e) st hq
  replace h:=hy7
  refine sp 31 h rfl (fun h=>?_) fun h=>?_
  ·refine dk 5 [36,35,34,33,32] [B true,.und,.und,.und,.und] ?_
   refine de 338 rfl rfl ?_
   exact rf [1,3,36] [1] (j7 _ (Option.some.inj h).symm :)
  ·refine dy [1] [] (.agg [.isl false (c_1.Parties.map str),.isl false (c_1.Clauses.map aa)]) rfl (aO rfl rfl) ?_
   refine dk 1 [33] [I x4] ?_
   obtain⟨r8,hr8,h⟩:=bS h
   refine dy [] [] (B r8) rfl (cP (OE hr8)) ?_ (dj rfl rfl rfl rfl (ca (cT rfl) (ca (cT rfl) dD)) (OE hr8) (.inr rfl) rfl)
   refine dk 2 [36,35] [B (!r8),B (!r8)] ?_
   refine de 338 rfl rfl ?_
   exact rf [1,3,36] [1] (j7 _ (Option.some.inj h).symm :)
 ·refine aq 1 ?_
  exact rf [1] [1] (hn _ (Option.some.inj h).symm :) (hk:=hK)
theorem RG (c_1:Contract)(r:Bool)(h:yu c_1=some r):bc uh Tryz.f72 [false] 0 (BN c_1) (BC r):=by
 show Run _ _ (qb c_1 r) [.code zM] _
 refine rI 41 [(0,.agg [.isl false (c_1.Parties.map str),.isl false (c_1.Clauses.map aa)])] [] 1 ?_
 unfold yu at h
 refine ck 10 [1,5] [] [1] [] [.hp 1 0 [] 2 0 0,.isl false (c_1.Clauses.map aa)] [some ⟨0,2,[.agg [.isl false (c_1.Parties.map str),.isl false (c_1.Clauses.map aa)]]⟩] 65 (by kernel_rfl) ?_
 refine oq 81 (I (len c_1.Clauses)) rfl (aW rfl rfl rfl (bb rfl)) ?_
 obtain⟨r2,hr2,h⟩:=bS h
 refine oq 97 (B r2) rfl (cP (cY hr2)) ?_
 refine cq 2 [9] [B (!r2)] 129 ?_
 obtain⟨y3,hy3,hy31,hy32⟩:=bJ h
 have j3:∀u3,y3=.inr u3→Run uh 0 (qb c_1 r) (.code (cR (cL (cR zM)))::.code (cR (cR zM))::[]) (sT 41 [(1,.hp 1 0 [] 2 0 0),(13,B u3)] [⟨0,2,[.agg [.isl false (c_1.Parties.map str),.isl false (c_1.Clauses.map aa)]]⟩] 2):=by
  intro u3 hu
  replace h:=hy32 u3 hu
  refine sq h (fun h=>?_) fun h=>?_
  ·refine cq 4 [2] [B false] 18 ?_
   obtain rfl:=Option.some.inj h
   exact ai rfl (qp [B false])
  ·refine aq 1 ?_
   refine cq 6 [3] [I (0)] 18 ?_
   obtain⟨y9,hy9,hy91,hy92⟩:=bJ h
   refine bD rfl ?_
   refine rf [1,3] [1] (I7 c_1 rfl 0 _ hy9 (fun r' e st hq=>by rw[hy91 r' e] at hq;exact hq) fun u9 hu=>?_)
   replace h:=hy92 u9 hu
   refine cq 3 [37] [.agg [.isl false (c_1.Parties.map str),.isl false (c_1.Clauses.map aa)]] 18 ?_
   obtain⟨r10,hr10,h⟩:=bS h
   refine oq 34 (.hs 18 0 [] 1 0 (r10.map str).length) rfl (cP (PP hr10)) ?_
   refine oq 50 (I (len r10)) rfl (aW rfl rfl rfl (vm (f:=str) (xs:=r10) rfl rfl)) ?_
   refine cq 3 [2] [B (decide ((len r10)≤16))] 82 ?_
   obtain rfl:=Option.some.inj h
   exact ai rfl (qp [B (decide ((len r10)≤16))])
 have r3:∀r',y3=.inl r'→∀st,qb c_1 r' st→(qb c_1 r) st:=fun r' e st hq=>by rw[hy31 r' e] at hq;exact hq
 replace h:=hy3
 refine sp 9 h rfl (fun h=>?_) fun h=>?_
 ·refine cq 5 [13] [B true] 193 ?_
  exact rf [1,13] [1] (j3 _ (Option.some.inj h).symm :)
 ·refine cq 1 [10] [.agg [.isl false (c_1.Parties.map str),.isl false (c_1.Clauses.map aa)]] 145 ?_
  obtain⟨r11,hr11,h⟩:=bS h
  refine oy 161 (B r11) rfl (cP (VI hr11)) ?_
  refine cq 3 [13] [B (!r11)] 193 ?_
  exact rf [1,13] [1] (j3 _ (Option.some.inj h).symm :)
theorem MR {G:Go.Ln.Ground}:aH Tryz.prog G 72 yw:=gT 1 0 (aD eU (aD EI (aD PN (aD E6 (aD Ov bf))))) (Checked.mixed Tryz.checked) Tryz.func72 (fun a r h=>RG a r h)
def Ba:(List ah)→List V:=oA (ee str)
def CD (r:Bool):V×List V:=(B r,[])
noncomputable def yW:Ent:=aP [false] Ba CD fun x=>yk x
theorem W5 {list_1:List ah}{r}(h:yk list_1=some r):yW.F (Ba list_1)=some (CD r):=aA (aB (bw bm)) h
noncomputable def NU:Code:=ay Tryz.f115
noncomputable abbrev iK:Code:=cL (cL (cR (cL (cR NU))))
noncomputable def rl:Env:=bC Tryz.prog [(157,mm)]
def AW (x:(List ah))(r:Bool):St→Prop:=QF rl Tryz.f115 [false] (Ba x) (CD r)
theorem IW (list_1:List ah):b9 rl 0 (AW list_1) iK 0 (gh list_1) (fun u=>(sT 39 [(0,.isl false (list_1.map str))] [] 1)) fun x2=>(sT 39 [(0,.isl false (list_1.map str)),(3,I x2)] [] 1):=dM (wj list_1) fun {Q K} hK self ih x2 y h hr hn=>by
 unfold gZ at h
 refine cq 5 [4,5] [I x2,.isl false (list_1.map str)] 33 ?_
 refine oq 49 (I (len list_1)) rfl (aW rfl rfl rfl (bb rfl)) ?_
 refine cq 2 [8] [B (decide (x2<(len list_1)))] 81 ?_
 obtain⟨u3,hu3,h⟩:=lJ h
 have j3:Run rl 0 Q (.code (cR (cL iK))::.code (cR iK)::.lp iK::.blk 0::K) (sT 39 [(0,.isl false (list_1.map str)),(3,I x2),(11,B u3)] [] 1):=by
  refine sq h (fun h=>?_) fun h=>?_
  ·refine aq 1 ?_
   refine aq 3 ?_
   refine d7 [0,0,3,7,15,31,63,127,255,511,1023,1023,3071,8191,16383,1023,1023,99327,230399,524287,1048575,2097151] rfl (by decide +kernel) ?_
   refine dk 2 [15,14] [I x2,.isl false (list_1.map str)] ?_
   obtain⟨e4,he4,h⟩:=bS h
   refine dq [] [] (.iptr (str e4) 0) rfl (an rfl rfl rfl (aM rfl rfl rfl rfl he4)) ?_
   refine dq [] [] (str e4) rfl (aO rfl rfl) ?_
   obtain⟨r5,hr5,h⟩:=bS h
   refine dq [] [] (B r5) rfl (cP (ol hr5)) ?_ (dj rfl rfl rfl rfl (ca (cT rfl) dD) (ol hr5) (.inr rfl) rfl)
   refine dk 2 [20,19] [B (!r5),B (!r5)] ?_
   obtain⟨y6,hy6,hy61,hy62⟩:=bL h
   have j6:∀u6,y6=.inr u6→Run rl 0 Q (.code (cR (cL (cL (cR iK))))::.blk 1::.code (cR (cR iK))::.lp iK::.blk 0::K) (sT 39 [(0,.isl false (list_1.map str)),(3,I x2),(35,B u6)] [] 1):=by
    intro u6 hu
    replace h:=hy62 u6 hu
    refine sq h (fun h=>?_) fun h=>?_
    ·refine cq 4 [2] [B false] 17 ?_
     exact ai rfl (hr _ (Option.some.inj h).symm _ (qp [B false]))
    ·refine aq 1 ?_
     refine cq 6 [3] [I (ar (x2+1))] 49 ?_
     refine cE ?_
     exact rf [0,3] [] (ih _ _ h hr hn :)
   have r6:∀r',y6=.inl r'→∀st,AW list_1 r' st→Q st:=fun r' e st hq=>hr r' (hy61 r' e) st hq
   replace h:=hy6
   refine sp 20 h rfl (fun h=>?_) fun h=>?_
   ·refine dk 15 [35,34,33,32,31,30,29,28,27,26,25,24,23,22,21] [B true,.und,.und,.und,.und,.und,.und,.und,.und,.und,.und,.und,.und,.und,.und] ?_
    refine de 353 rfl rfl ?_
    exact rf [0,3,35] [] (j6 _ (Option.some.inj h).symm :)
   ·refine dk 3 [23,22,21] [B (decide (x2>0)),B (decide (x2>0)),I x2] ?_
    obtain⟨y7,hy7,hy71,hy72⟩:=bL h
    have j7:∀u7,y7=.inr u7→Run rl 0 Q (.code (cR (cL (cL (cR iK))))::.blk 1::.code (cR (cR iK))::.lp iK::.blk 0::K) (sT 39 [(0,.isl false (list_1.map str)),(3,I x2),(35,B u7)] [] 1):=by
     intro u7 hu
     replace h:=hy72 u7 hu
     exact rf [0,3,35] [] (j6 _ (Option.some.inj h).symm :)
    have r7:∀r',y7=.inl r'→∀st,AW list_1 r' st→Q st:=fun r' e st hq=>r6 r' (hy71 r' e) st hq
    replace h:=hy7
    refine sp 23 h rfl (fun h=>?_) fun h=>?_
    ·refine dk 3 [26,25,24] [I (ar (x2 - 1)),I x2,.isl false (list_1.map str)] ?_
     obtain⟨e8,he8,h⟩:=bS h
     refine dy [] [] (.iptr (str e8) 0) rfl (an rfl rfl rfl (aM rfl rfl rfl rfl he8)) ?_
     refine dy [] [] (str e8) rfl (aO rfl rfl) ?_
     refine dk 2 [30,29] [I x2,.isl false (list_1.map str)] ?_
     obtain⟨e9,he9,h⟩:=bS h
     refine dy [] [] (.iptr (str e9) 0) rfl (an rfl rfl rfl (aM rfl rfl rfl rfl he9)) ?_
     refine dy [] [] (str e9) rfl (aO rfl rfl) ?_
     refine dk 3 [35,34,33] [B (!(Op.bytesLess e8 e9)),B (!(Op.bytesLess e8 e9)),B (!(Op.bytesLess e8 e9))] ?_
     refine de 353 rfl rfl ?_
     exact rf [0,3,35] [] (j7 _ (Option.some.inj h).symm :)
    ·refine dk 12 [35,34,33,32,31,30,29,28,27,26,25,24] [B false,B false,.und,.und,.und,.und,.und,.und,.und,.und,.und,.und] ?_
     refine de 353 rfl rfl ?_
     exact rf [0,3,35] [] (j7 _ (Option.some.inj h).symm :)
  ·refine aq 1 ?_
   exact rf [0] [] (hn _ (Option.some.inj h).symm :) (hk:=hK)
 replace h:=hu3
 clear hu3
 refine sp 8 h rfl (fun h=>?_) fun h=>?_
 ·refine cq 4 [11] [B (decide (x2≤16))] 129 ?_
  subst h
  exact rf [0,3,11] [] (j3 :)
 ·refine cq 4 [11] [B false] 129 ?_
  subst h
  exact rf [0,3,11] [] (j3 :)
theorem Qk (list_1:List ah)(r:Bool)(h:yk list_1=some r):bc rl Tryz.f115 [false] 0 (Ba list_1) (CD r):=by
 show Run _ _ (AW list_1 r) [.code NU] _
 refine rI 39 [(0,.isl false (list_1.map str))] [] 1 ?_
 unfold yk at h
 refine cq 10 [3] [I (0)] 33 ?_
 obtain⟨y10,hy10,hy101,hy102⟩:=bJ h
 refine bD rfl ?_
 refine rf [0,3] [] (IW list_1 rfl 0 _ hy10 (fun r' e st hq=>by rw[hy101 r' e] at hq;exact hq) fun u10 hu=>?_)
 replace h:=hy102 u10 hu
 refine cq 3 [36] [.isl false (list_1.map str)] 17 ?_
 refine oq 33 (I (len list_1)) rfl (aW rfl rfl rfl (bb rfl)) ?_
 refine cq 3 [2] [B (decide ((len list_1)≤16))] 65 ?_
 obtain rfl:=Option.some.inj h
 exact ai rfl (qp [B (decide ((len list_1)≤16))])
theorem MP {G:Go.Ln.Ground}:aH Tryz.prog G 115 yW:=gT 1 0 (aD pw bf) (Checked.mixed Tryz.checked) Tryz.func115 (fun a r h=>Qk a r h)
def CE:(Contract×Int)→List V:=cA aG (oA I)
def Di (r:Bool):V×List V:=(B r,[])
noncomputable def xB:Ent:=aP [false,false] CE Di fun x=>xD x.1 x.2
theorem WM {c_1:Contract}{i_2:Int}{r}(h:xD c_1 i_2=some r):xB.F (CE (c_1,i_2))=some (Di r):=aA (aY aQ (aB bO)) h
noncomputable def Mm:Code:=ay Tryz.f181
noncomputable def Gm:Env:=bC Tryz.prog []
def OZ (x:Contract×Int)(r:Bool):St→Prop:=QF Gm Tryz.f181 [false,false] (CE x) (Di r)
theorem Jl (c_1:Contract)(i_2:Int):b9 Gm 0 (OZ (c_1,i_2)) (cL (cL (cR (cL (cR Mm))))) 0 (pY c_1 i_2) (fun u=>(sT 26 [] [] 1)) fun x3=>(sT 26 [(1,I i_2),(2,.hp 1 0 [] 2 0 0),(5,I x3)] [⟨0,2,[.agg [.isl false (c_1.Parties.map str),.isl false (c_1.Clauses.map aa)]]⟩] 2):=dM (wa c_1 i_2) fun {Q K} hK self ih x3 y h hr hn=>by
 unfold kM at h
 refine cq 6 [6,8] [I x3,.isl false (c_1.Clauses.map aa)] 50 ?_
 refine oq 66 (I (len c_1.Clauses)) rfl (aW rfl rfl rfl (bb rfl)) ?_
 refine cq 2 [10] [B (decide (x3<(len c_1.Clauses)))] 82 ?_
 refine sq h (fun h=>?_) fun h=>?_
 ·refine aq 1 ?_
  refine aq 3 ?_
  refine d7 [0,1,0,7,15,31,0,64,0,448,960,1984,4095] rfl (by decide +kernel) ?_
  refine dq [1] [] (.hp 1 0 [] 2 0 1) rfl (al rfl rfl rfl) ?_
  refine dq [1] [] (.isl false (c_1.Clauses.map aa)) rfl (aO rfl rfl) ?_
  refine dk 1 [15] [I x3] ?_
  obtain⟨e4,he4,h⟩:=bS h
  refine dq [] [] (.iptr (.agg [str e4.Id,I e4.Kind,I e4.Party,str e4.Action,I e4.Other,I e4.Amount,I e4.When.Op,str e4.When.Name,I e4.When.Day,.isl false (e4.When.Parts.map ac),I e4.Within,str e4.Repair]) 0) rfl (an rfl rfl rfl (aM rfl rfl rfl rfl he4)) ?_
  refine dq [] [] (.iptr (.agg [str e4.Id,I e4.Kind,I e4.Party,str e4.Action,I e4.Other,I e4.Amount,I e4.When.Op,str e4.When.Name,I e4.When.Day,.isl false (e4.When.Parts.map ac),I e4.Within,str e4.Repair]) 11) rfl (al rfl rfl rfl) ?_
  refine dq [] [] (str e4.Repair) rfl (aO rfl rfl) ?_
  refine dq [1] [] (.hp 1 0 [] 2 0 1) rfl (al rfl rfl rfl) ?_
  refine dq [1] [] (.isl false (c_1.Clauses.map aa)) rfl (aO rfl rfl) ?_
  refine dk 1 [21] [I i_2] ?_
  obtain⟨e5,he5,h⟩:=bS h
  refine dq [] [] (.iptr (.agg [str e5.Id,I e5.Kind,I e5.Party,str e5.Action,I e5.Other,I e5.Amount,I e5.When.Op,str e5.When.Name,I e5.When.Day,.isl false (e5.When.Parts.map ac),I e5.Within,str e5.Repair]) 0) rfl (an rfl rfl rfl (aM rfl rfl rfl rfl he5)) ?_
  refine dq [] [] (.iptr (.agg [str e5.Id,I e5.Kind,I e5.Party,str e5.Action,I e5.Other,I e5.Amount,I e5.When.Op,str e5.When.Name,I e5.When.Day,.isl false (e5.When.Parts.map ac),I e5.Within,str e5.Repair]) 0) rfl (al rfl rfl rfl) ?_
  refine dq [] [] (str e5.Id) rfl (aO rfl rfl) ?_
  refine dk 1 [25] [B (e4.Repair==e5.Id)] ?_
  refine de 290 rfl rfl ?_
  refine sq h (fun h=>?_) fun h=>?_
  ·refine cq 4 [4] [B true] 306 ?_
   exact ai rfl (hr _ (Option.some.inj h).symm _ (qp [B true]))
  ·refine aq 1 ?_
   refine cq 6 [5] [I (ar (x3+1))] 338 ?_
   refine cE ?_
   exact rf [1,2,5] [1] (ih _ _ h hr hn :)
 ·refine aq 1 ?_
  exact rf [] [] (hn _ (Option.some.inj h).symm :) (hk:=hK)
theorem Qt (c_1:Contract)(i_2:Int)(r:Bool)(h:xD c_1 i_2=some r):bc Gm Tryz.f181 [false,false] 0 (CE (c_1,i_2)) (Di r):=by
 show Run _ _ (OZ (c_1,i_2) r) [.code Mm] _
 refine rI 26 [(0,.agg [.isl false (c_1.Parties.map str),.isl false (c_1.Clauses.map aa)]),(1,I i_2)] [] 1 ?_
 unfold xD at h
 refine ck 11 [2,5] [] [1] [] [.hp 1 0 [] 2 0 0,I (0)] [some ⟨0,2,[.agg [.isl false (c_1.Parties.map str),.isl false (c_1.Clauses.map aa)]]⟩] 49 (by kernel_rfl) ?_
 obtain⟨y6,hy6,hy61,hy62⟩:=bJ h
 refine bD rfl ?_
 refine rf [1,2,5] [1] (Jl c_1 i_2 rfl 0 _ hy6 (fun r' e st hq=>by rw[hy61 r' e] at hq;exact hq) fun u6 hu=>?_)
 replace h:=hy62 u6 hu
 refine cq 4 [4] [B false] 17 ?_
 obtain rfl:=Option.some.inj h
 exact ai rfl (qp [B false])
theorem NB {G:Go.Ln.Ground}:aH Tryz.prog G 181 xB:=gT 2 0 bf (Checked.mixed Tryz.checked) Tryz.func181 (fun a r h=>Qt a.1 a.2 r h)
def Bg:(State×Int)→List V:=cA bH (oA I)
def BR (r:Int):V×List V:=(I r,[])
noncomputable def xP:Ent:=aP [false,false] Bg BR fun x=>yI x.1 x.2
theorem Ws {s_1:State}{i_2:Int}{r}(h:yI s_1 i_2=some r):xP.F (Bg (s_1,i_2))=some (BR r):=aA (aY cS (aB bO)) h
noncomputable def Ot:Code:=ay Tryz.f182
noncomputable abbrev El:Code:=cL (cL (cR (cL (cR (cR Ot)))))
noncomputable def Bo:Env:=bC Tryz.prog []
def NC (x:State×Int)(r:Int):St→Prop:=QF Bo Tryz.f182 [false,false] (Bg x) (BR r)
theorem Jq (s_1:State)(i_2:Int):b9 Bo 0 (NC (s_1,i_2)) El 0 (jX s_1 i_2) (fun u=>(sT 25 [(5,I u)] [] 1)) fun x3=>(sT 25 [(1,I i_2),(2,.hp 1 0 [] 5 0 0),(5,I x3.1),(6,I x3.2)] [⟨0,5,[.agg [I s_1.Day,.isl false (s_1.Facts.map str),.isl false (s_1.Duties.map ae),.isl false (s_1.Balances.map I),B s_1.Over]]⟩] 2):=dM (wr s_1 i_2) fun {Q K} hK self ih x3 y h hr hn=>by
 unfold jd at h
 refine cq 6 [7,9] [I x3.2,.isl false (s_1.Duties.map ae)] 50 ?_
 refine oq 66 (I (len s_1.Duties)) rfl (aW rfl rfl rfl (bb rfl)) ?_
 refine cq 2 [11] [B (decide (x3.2<(len s_1.Duties)))] 82 ?_
 refine sq h (fun h=>?_) fun h=>?_
 ·refine aq 1 ?_
  refine cq 7 [15,16] [.isl false (s_1.Duties.map ae),I x3.2] 130 ?_
  obtain⟨e4,he4,h⟩:=bS h
  refine oq 146 (.iptr (ae e4) 0) rfl (an rfl rfl rfl (aM rfl rfl rfl rfl he4)) ?_
  refine cq 5 [21] [B (e4.Clause==i_2)] 210 ?_
  obtain⟨u5,hu5,h⟩:=lJ h
  have j5:Run Bo 0 Q (.blk 1::.code (cR (cR El))::.lp El::.blk 0::K) (sT 25 [(1,I i_2),(2,.hp 1 0 [] 5 0 0),(5,I u5),(6,I x3.2)] [⟨0,5,[.agg [I s_1.Day,.isl false (s_1.Facts.map str),.isl false (s_1.Duties.map ae),.isl false (s_1.Balances.map I),B s_1.Over]]⟩] 2):=by
   refine cq 6 [6] [I (ar (x3.2+1))] 50 ?_
   refine cE ?_
   exact rf [1,2,5,6] [1] (ih _ _ h hr hn :)
  replace h:=hu5
  clear hu5
  refine vw h rfl rfl (fun h=>?_) fun h=>?_
  ·refine cq 5 [5] [I (ar (x3.1+1))] 258 ?_
   subst h
   exact rf [1,2,5,6] [1] (j5 :)
  ·refine aq 1 ?_
   subst h
   exact rf [1,2,5,6] [1] (j5 :)
 ·refine aq 1 ?_
  exact rf [5] [] (hn _ (Option.some.inj h).symm :) (hk:=hK)
theorem RS (s_1:State)(i_2:Int)(r:Int)(h:yI s_1 i_2=some r):bc Bo Tryz.f182 [false,false] 0 (Bg (s_1,i_2)) (BR r):=by
 show Run _ _ (NC (s_1,i_2) r) [.code Ot] _
 refine rI 25 [(0,.agg [I s_1.Day,.isl false (s_1.Facts.map str),.isl false (s_1.Duties.map ae),.isl false (s_1.Balances.map I),B s_1.Over]),(1,I i_2)] [] 1 ?_
 unfold yI at h
 refine ck 15 [2,5,6] [] [1] [] [.hp 1 0 [] 5 0 0,I (0),I (0)] [some ⟨0,5,[.agg [I s_1.Day,.isl false (s_1.Facts.map str),.isl false (s_1.Duties.map ae),.isl false (s_1.Balances.map I),B s_1.Over]]⟩] 65 (by kernel_rfl) ?_
 obtain⟨y6,hy6,hy61,hy62⟩:=bJ h
 refine bD rfl ?_
 refine rf [1,2,5,6] [1] (Jq s_1 i_2 rfl (0,0) _ hy6 (fun r' e st hq=>by rw[hy61 r' e] at hq;exact hq) fun u6 hu=>?_)
 replace h:=hy62 u6 hu
 refine cq 5 [4] [I u6] 33 ?_
 obtain rfl:=Option.some.inj h
 exact ai rfl (qp [I u6])
theorem P2 {G:Go.Ln.Ground}:aH Tryz.prog G 182 xP:=gT 2 0 bf (Checked.mixed Tryz.checked) Tryz.func182 (fun a r h=>RS a.1 a.2 r h)
def CN:(Contract×State×Int)→List V:=cA aG (cA bH (oA I))
def Ar (r:Bool):V×List V:=(B r,[])
noncomputable def yK:Ent:=aP [false,false,false] CN Ar fun x=>xb x.1 x.2.1 x.2.2
theorem UX {c_1:Contract}{s_2:State}{k_3:Int}{r}(h:xb c_1 s_2 k_3=some r):yK.F (CN (c_1,s_2,k_3))=some (Ar r):=aA (aY aQ (aY cS (aB bO))) h
noncomputable def Ho:Code:=ay Tryz.f118
noncomputable abbrev mi:Code:=cR (cR (cR Ho))
noncomputable abbrev qN:Code:=cR (cL (cR (cR Ho)))
noncomputable abbrev cZ:Code:=cR mi
noncomputable abbrev dt:Code:=cR (cL mi)
noncomputable def cO:Env:=bC Tryz.prog [(73,ed),(181,xB),(182,xP),(114,oo)]
def b7 (x:Contract×State×Int)(r:Bool):St→Prop:=QF cO Tryz.f118 [false,false,false] (CN x) (Ar r)
theorem Sp (c_1:Contract)(s_2:State)(k_3:Int)(r:Bool)(h:xb c_1 s_2 k_3=some r):bc cO Tryz.f118 [false,false,false] 0 (CN (c_1,s_2,k_3)) (Ar r):=by
 show Run _ _ (b7 (c_1,s_2,k_3) r) [.code Ho] _
 refine rI 129 [(0,.agg [.isl false (c_1.Parties.map str),.isl false (c_1.Clauses.map aa)]),(1,.agg [I s_2.Day,.isl false (s_2.Facts.map str),.isl false (s_2.Duties.map ae),.isl false (s_2.Balances.map I),B s_2.Over]),(2,I k_3)] [] 1 ?_
 unfold xb at h
 refine ck 11 [3,4,9,10] [] [1,17] [] [.hp 1 0 [] 2 0 0,.hp 17 0 [] 5 0 0,.isl false (s_2.Duties.map ae),I k_3] [some ⟨0,2,[.agg [.isl false (c_1.Parties.map str),.isl false (c_1.Clauses.map aa)]]⟩,some ⟨0,5,[.agg [I s_2.Day,.isl false (s_2.Facts.map str),.isl false (s_2.Duties.map ae),.isl false (s_2.Balances.map I),B s_2.Over]]⟩] 97 (by kernel_rfl) ?_
 obtain⟨e4,he4,h⟩:=bS h
 refine oq 113 (.iptr (ae e4) 0) rfl (an rfl rfl rfl (aM rfl rfl rfl rfl he4)) ?_
 refine ck 6 [7] [] [129] [] [.hp 129 0 [] 4 0 0] [some ⟨0,4,[ae e4]⟩] 161 (by kernel_rfl) ?_
 refine d7 [0,1,0,4,12,28,63,127,255,511,1023,511,2559,8191,16383,32767,65535,131071,262143,524287,1048575,524287,2621439,8388607,16777215,33554431,67108863,134217727,268435455,134217727,671088639,134217727,2281701375,134217727,8724152319,32346472447,66706210815,135425687551,274475253759,549755813887,1099511627775,2199023255551,4398046511103,8796093022207,17592186044415,35184372088831,70368744177663,140737488355327,281474976710655,562949953421311,1125899906842623,2251799813685247,4503599627370495] rfl (by decide +kernel) ?_
 refine dq [129] [] (.hp 129 0 [] 4 0 0) rfl (al rfl rfl rfl) ?_
 refine dq [129] [] (I e4.Clause) rfl (aO rfl rfl) ?_
 refine dq [1] [] (.hp 1 0 [] 2 0 1) rfl (al rfl rfl rfl) ?_
 refine dq [1] [] (.isl false (c_1.Clauses.map aa)) rfl (aO rfl rfl) ?_
 refine dq [] [] (I (len c_1.Clauses)) rfl (aW rfl rfl rfl (bb rfl)) ?_
 refine dk 1 [18] [I (ar ((len c_1.Clauses) - 1))] ?_
 obtain⟨r5,hr5,h⟩:=bS h
 refine dq [] [] (B r5) rfl (cP (cY hr5)) ?_ (dj rfl rfl rfl rfl (ca (cT rfl) (ca (cT rfl) (ca (cT rfl) dD))) (cY hr5) (.inr rfl) rfl)
 refine dk 2 [21,20] [B (!r5),B (!r5)] ?_
 obtain⟨y6,hy6,hy61,hy62⟩:=bJ h
 have j6:∀u6,y6=.inr u6→Run cO 0 (b7 (c_1,s_2,k_3) r) (.code qN::.code mi::[]) (sT 129 [(2,I k_3),(3,.hp 1 0 [] 2 0 0),(4,.hp 2 0 [] 5 0 0),(7,.hp 3 0 [] 4 0 0),(65,B u6)] [⟨0,2,[.agg [.isl false (c_1.Parties.map str),.isl false (c_1.Clauses.map aa)]]⟩,⟨0,5,[.agg [I s_2.Day,.isl false (s_2.Facts.map str),.isl false (s_2.Duties.map ae),.isl false (s_2.Balances.map I),B s_2.Over]]⟩,⟨0,4,[ae e4]⟩] 4):=by
  intro u6 hu
  replace h:=hy62 u6 hu
  refine sq h (fun h=>?_) fun h=>?_
  ·refine cq 4 [6] [B false] 20 ?_
   obtain rfl:=Option.some.inj h
   exact ai rfl (qp [B false])
  ·refine aq 1 ?_
   refine aq 2 ?_
   refine d7 [0,1,3,7,15,7,39,127,255,511,7,1031,4095,8191,16383,32767,65535,131071,262143,524287,1048575,524287,2621439,8388607,16777215,33554431,67108863,134217727,268435455,536870911,1073741823,2147483647,4294967295,8589934591,17179869183,34359738367,68719476735,34359738367,171798691839,549755813887,1099511627775,2199023255551,4398046511103,8796093022207,17592186044415,35184372088831,70368744177663,140737488355327,281474976710655,562949953421311,1125899906842623,2251799813685247] rfl (by decide +kernel) ?_
   refine dk 3 [68,67,66] [B (decide (k_3>0)),B (decide (k_3>0)),I k_3] ?_
   obtain⟨y7,hy7,hy71,hy72⟩:=bJ h
   have j7:∀u7,y7=.inr u7→Run cO 0 (b7 (c_1,s_2,k_3) r) (.code dt::.code cZ::[]) (sT 129 [(3,.hp 1 0 [] 2 0 0),(4,.hp 2 0 [] 5 0 0),(7,.hp 3 0 [] 4 0 0),(117,B u7)] [⟨0,2,[.agg [.isl false (c_1.Parties.map str),.isl false (c_1.Clauses.map aa)]]⟩,⟨0,5,[.agg [I s_2.Day,.isl false (s_2.Facts.map str),.isl false (s_2.Duties.map ae),.isl false (s_2.Balances.map I),B s_2.Over]]⟩,⟨0,4,[ae e4]⟩] 4):=by
    intro u7 hu
    replace h:=hy72 u7 hu
    refine sq h (fun h=>?_) fun h=>?_
    ·refine cq 4 [6] [B false] 20 ?_
     obtain rfl:=Option.some.inj h
     exact ai rfl (qp [B false])
    ·refine aq 1 ?_
     refine cq 5 [118,120] [.agg [.isl false (c_1.Parties.map str),.isl false (c_1.Clauses.map aa)],I e4.Clause] 52 ?_
     obtain⟨r8,hr8,h⟩:=bS h
     refine oq 68 (B r8) rfl (cP (WM hr8)) ?_
     refine cq 1 [122] [B r8] 84 ?_
     obtain⟨y9,hy9,hy91,hy92⟩:=bJ h
     have j9:∀u9,y9=.inr u9→Run cO 0 (b7 (c_1,s_2,k_3) r) (.code (cR cZ)::[]) (sT 129 [(6,B u9)] [] 1):=by
      intro u9 hu
      replace h:=hy92 u9 hu
      obtain rfl:=Option.some.inj h
      exact ai rfl (qp [B u9])
     have r9:∀r',y9=.inl r'→∀st,b7 (c_1,s_2,k_3) r' st→(b7 (c_1,s_2,k_3) r) st:=fun r' e st hq=>by rw[hy91 r' e] at hq;exact hq
     replace h:=hy9
     refine sp 122 h rfl (fun h=>?_) fun h=>?_
     ·refine cq 8 [6] [B true] 196 ?_
      exact rf [6] [] (j9 _ (Option.some.inj h).symm :)
     ·refine cq 3 [123,125] [.agg [I s_2.Day,.isl false (s_2.Facts.map str),.isl false (s_2.Duties.map ae),.isl false (s_2.Balances.map I),B s_2.Over],I e4.Clause] 132 ?_
      obtain⟨r10,hr10,h⟩:=bS h
      refine oy 148 (I r10) rfl (cP (Ws hr10)) ?_
      refine cq 4 [6] [B (r10==1)] 196 ?_
      exact rf [6] [] (j9 _ (Option.some.inj h).symm :)
   have r7:∀r',y7=.inl r'→∀st,b7 (c_1,s_2,k_3) r' st→(b7 (c_1,s_2,k_3) r) st:=fun r' e st hq=>by rw[hy71 r' e] at hq;exact hq
   replace h:=hy7
   refine sp 68 h rfl (fun h=>?_) fun h=>?_
   ·refine dy [2] [] (.hp 2 0 [] 5 0 2) rfl (al rfl rfl rfl) ?_
    refine dy [2] [] (.isl false (s_2.Duties.map ae)) rfl (aO rfl rfl) ?_
    refine dk 2 [72,71] [I (ar (k_3 - 1)),I k_3] ?_
    obtain⟨e11,he11,h⟩:=bS h
    refine dy [] [] (.iptr (ae e11) 0) rfl (an rfl rfl rfl (aM rfl rfl rfl rfl he11)) ?_
    refine dy [] [] (.iptr (ae e11) 1) rfl (al rfl rfl rfl) ?_
    refine dy [] [] (I e11.Since) rfl (aO rfl rfl) ?_
    refine dy [3] [] (.hp 3 0 [] 4 0 1) rfl (al rfl rfl rfl) ?_
    refine dy [3] [] (I e4.Since) rfl (aO rfl rfl) ?_
    refine dk 3 [80,79,78] [B (decide (e11.Since>e4.Since)),B (decide (e11.Since>e4.Since)),B (decide (e11.Since>e4.Since))] ?_
    obtain⟨u12,hu12,h⟩:=lJ h
    have j12:Run cO 0 (b7 (c_1,s_2,k_3) r) (.code dt::.code cZ::[]) (sT 129 [(3,.hp 1 0 [] 2 0 0),(4,.hp 2 0 [] 5 0 0),(7,.hp 3 0 [] 4 0 0),(117,B u12)] [⟨0,2,[.agg [.isl false (c_1.Parties.map str),.isl false (c_1.Clauses.map aa)]]⟩,⟨0,5,[.agg [I s_2.Day,.isl false (s_2.Facts.map str),.isl false (s_2.Duties.map ae),.isl false (s_2.Balances.map I),B s_2.Over]]⟩,⟨0,4,[ae e4]⟩] 4):=by
     exact rf [3,4,7,117] [1,2,3] (j7 _ (Option.some.inj h).symm :)
    replace h:=hu12
    clear hu12
    refine sp 80 h rfl (fun h=>?_) fun h=>?_
    ·refine dk 37 [117,116,115,114,113,112,111,110,109,108,107,106,105,104,103,102,101,100,99,98,97,96,95,94,93,92,91,90,89,88,87,86,85,84,83,82,81] [B true,.und,.und,.und,.und,.und,.und,.und,.und,B true,B true,.und,.und,.und,.und,.und,.und,.und,.und,.und,.und,B true,B true,.und,.und,.und,.und,.und,.und,.und,.und,.und,.und,.und,.und,.und,.und] ?_
     refine de 836 rfl rfl ?_
     subst h
     exact rf [3,4,7,117] [1,2,3] (j12 :)
    ·refine dy [3] [] (.hp 3 0 [] 4 0 3) rfl (al rfl rfl rfl) ?_
     refine dy [3] [] (I e4.Status) rfl (aO rfl rfl) ?_
     refine dk 2 [84,83] [B (e4.Status==1),B (e4.Status==1)] ?_
     obtain⟨u13,hu13,h⟩:=lJ h
     have j13:Run cO 0 (b7 (c_1,s_2,k_3) r) (.code dt::.code cZ::[]) (sT 129 [(3,.hp 1 0 [] 2 0 0),(4,.hp 2 0 [] 5 0 0),(7,.hp 3 0 [] 4 0 0),(117,B u13)] [⟨0,2,[.agg [.isl false (c_1.Parties.map str),.isl false (c_1.Clauses.map aa)]]⟩,⟨0,5,[.agg [I s_2.Day,.isl false (s_2.Facts.map str),.isl false (s_2.Duties.map ae),.isl false (s_2.Balances.map I),B s_2.Over]]⟩,⟨0,4,[ae e4]⟩] 4):=by
      subst h
      exact rf [3,4,7,117] [1,2,3] (j12 :)
     replace h:=hu13
     clear hu13
     refine sp 84 h rfl (fun h=>?_) fun h=>?_
     ·refine dy [3] [] (.hp 3 0 [] 4 0 2) rfl (al rfl rfl rfl) ?_
      refine dy [3] [] (I e4.Due) rfl (aO rfl rfl) ?_
      refine dy [2] [] (.hp 2 0 [] 5 0 0) rfl (al rfl rfl rfl) ?_
      refine dy [2] [] (I s_2.Day) rfl (aO rfl rfl) ?_
      refine dk 2 [90,89] [B (decide (e4.Due<s_2.Day)),B (decide (e4.Due<s_2.Day))] ?_
      obtain⟨u14,hu14,h⟩:=lJ h
      have j14:Run cO 0 (b7 (c_1,s_2,k_3) r) (.code dt::.code cZ::[]) (sT 129 [(3,.hp 1 0 [] 2 0 0),(4,.hp 2 0 [] 5 0 0),(7,.hp 3 0 [] 4 0 0),(117,B u14)] [⟨0,2,[.agg [.isl false (c_1.Parties.map str),.isl false (c_1.Clauses.map aa)]]⟩,⟨0,5,[.agg [I s_2.Day,.isl false (s_2.Facts.map str),.isl false (s_2.Duties.map ae),.isl false (s_2.Balances.map I),B s_2.Over]]⟩,⟨0,4,[ae e4]⟩] 4):=by
       subst h
       exact rf [3,4,7,117] [1,2,3] (j13 :)
      replace h:=hu14
      clear hu14
      refine sp 90 h rfl (fun h=>?_) fun h=>?_
      ·refine dk 27 [117,116,115,114,113,112,111,110,109,108,107,106,105,104,103,102,101,100,99,98,97,96,95,94,93,92,91] [B true,.und,.und,.und,.und,.und,.und,.und,.und,B true,B true,.und,.und,.und,.und,.und,.und,.und,.und,.und,.und,B true,B true,B true,B true,.und,.und] ?_
       refine de 836 rfl rfl ?_
       subst h
       exact rf [3,4,7,117] [1,2,3] (j14 :)
      ·refine dy [2] [] (.hp 2 0 [] 5 0 4) rfl (al rfl rfl rfl) ?_
       refine dy [2] [] (B s_2.Over) rfl (aO rfl rfl) ?_
       refine dk 4 [96,95,94,93] [B s_2.Over,B s_2.Over,B s_2.Over,B s_2.Over] ?_
       obtain⟨u15,hu15,h⟩:=lJ h
       have j15:Run cO 0 (b7 (c_1,s_2,k_3) r) (.code dt::.code cZ::[]) (sT 129 [(3,.hp 1 0 [] 2 0 0),(4,.hp 2 0 [] 5 0 0),(7,.hp 3 0 [] 4 0 0),(117,B u15)] [⟨0,2,[.agg [.isl false (c_1.Parties.map str),.isl false (c_1.Clauses.map aa)]]⟩,⟨0,5,[.agg [I s_2.Day,.isl false (s_2.Facts.map str),.isl false (s_2.Duties.map ae),.isl false (s_2.Balances.map I),B s_2.Over]]⟩,⟨0,4,[ae e4]⟩] 4):=by
        subst h
        exact rf [3,4,7,117] [1,2,3] (j14 :)
       replace h:=hu15
       clear hu15
       refine sp 96 h rfl (fun h=>?_) fun h=>?_
       ·refine dk 21 [117,116,115,114,113,112,111,110,109,108,107,106,105,104,103,102,101,100,99,98,97] [B true,.und,.und,.und,.und,.und,.und,.und,.und,B true,B true,.und,.und,.und,.und,.und,.und,.und,.und,.und,.und] ?_
        refine de 836 rfl rfl ?_
        subst h
        exact rf [3,4,7,117] [1,2,3] (j15 :)
       ·refine dy [3] [] (.hp 3 0 [] 4 0 3) rfl (al rfl rfl rfl) ?_
        refine dy [3] [] (I e4.Status) rfl (aO rfl rfl) ?_
        refine dk 2 [100,99] [B (e4.Status==3),B (e4.Status==3)] ?_
        obtain⟨u16,hu16,h⟩:=lJ h
        have j16:Run cO 0 (b7 (c_1,s_2,k_3) r) (.code dt::.code cZ::[]) (sT 129 [(3,.hp 1 0 [] 2 0 0),(4,.hp 2 0 [] 5 0 0),(7,.hp 3 0 [] 4 0 0),(117,B u16)] [⟨0,2,[.agg [.isl false (c_1.Parties.map str),.isl false (c_1.Clauses.map aa)]]⟩,⟨0,5,[.agg [I s_2.Day,.isl false (s_2.Facts.map str),.isl false (s_2.Duties.map ae),.isl false (s_2.Balances.map I),B s_2.Over]]⟩,⟨0,4,[ae e4]⟩] 4):=by
         subst h
         exact rf [3,4,7,117] [1,2,3] (j15 :)
        replace h:=hu16
        clear hu16
        refine sp 100 h rfl (fun h=>?_) fun h=>?_
        ·refine dy [3] [] (.hp 3 0 [] 4 0 2) rfl (al rfl rfl rfl) ?_
         refine dy [3] [] (I e4.Due) rfl (aO rfl rfl) ?_
         refine dy [2] [] (.hp 2 0 [] 5 0 0) rfl (al rfl rfl rfl) ?_
         refine dy [2] [] (I s_2.Day) rfl (aO rfl rfl) ?_
         refine dk 4 [108,107,106,105] [B (decide (e4.Due≥s_2.Day)),B (decide (e4.Due≥s_2.Day)),B (decide (e4.Due≥s_2.Day)),B (decide (e4.Due≥s_2.Day))] ?_
         obtain⟨u17,hu17,h⟩:=lJ h
         have j17:Run cO 0 (b7 (c_1,s_2,k_3) r) (.code dt::.code cZ::[]) (sT 129 [(3,.hp 1 0 [] 2 0 0),(4,.hp 2 0 [] 5 0 0),(7,.hp 3 0 [] 4 0 0),(117,B u17)] [⟨0,2,[.agg [.isl false (c_1.Parties.map str),.isl false (c_1.Clauses.map aa)]]⟩,⟨0,5,[.agg [I s_2.Day,.isl false (s_2.Facts.map str),.isl false (s_2.Duties.map ae),.isl false (s_2.Balances.map I),B s_2.Over]]⟩,⟨0,4,[ae e4]⟩] 4):=by
          subst h
          exact rf [3,4,7,117] [1,2,3] (j16 :)
         replace h:=hu17
         clear hu17
         refine sp 108 h rfl (fun h=>?_) fun h=>?_
         ·refine dk 9 [117,116,115,114,113,112,111,110,109] [B true,.und,.und,.und,.und,.und,.und,.und,.und] ?_
          refine de 836 rfl rfl ?_
          subst h
          exact rf [3,4,7,117] [1,2,3] (j17 :)
         ·refine dy [3] [] (.hp 3 0 [] 4 0 3) rfl (al rfl rfl rfl) ?_
          refine dy [3] [] (I e4.Status) rfl (aO rfl rfl) ?_
          refine dk 2 [112,111] [B (e4.Status==4),B (e4.Status==4)] ?_
          obtain⟨u18,hu18,h⟩:=lJ h
          have j18:Run cO 0 (b7 (c_1,s_2,k_3) r) (.code dt::.code cZ::[]) (sT 129 [(3,.hp 1 0 [] 2 0 0),(4,.hp 2 0 [] 5 0 0),(7,.hp 3 0 [] 4 0 0),(117,B u18)] [⟨0,2,[.agg [.isl false (c_1.Parties.map str),.isl false (c_1.Clauses.map aa)]]⟩,⟨0,5,[.agg [I s_2.Day,.isl false (s_2.Facts.map str),.isl false (s_2.Duties.map ae),.isl false (s_2.Balances.map I),B s_2.Over]]⟩,⟨0,4,[ae e4]⟩] 4):=by
           subst h
           exact rf [3,4,7,117] [1,2,3] (j17 :)
          replace h:=hu18
          clear hu18
          refine sp 112 h rfl (fun h=>?_) fun h=>?_
          ·refine dy [2] [] (.hp 2 0 [] 5 0 4) rfl (al rfl rfl rfl) ?_
           refine dy [2] [] (B s_2.Over) rfl (aO rfl rfl) ?_
           refine dk 3 [117,116,115] [B (!s_2.Over),B (!s_2.Over),B (!s_2.Over)] ?_
           refine de 836 rfl rfl ?_
           subst h
           exact rf [3,4,7,117] [1,2,3] (j18 :)
          ·refine dk 5 [117,116,115,114,113] [B false,B false,.und,.und,.und] ?_
           refine de 836 rfl rfl ?_
           subst h
           exact rf [3,4,7,117] [1,2,3] (j18 :)
        ·refine dk 8 [108,107,106,105,104,103,102,101] [B false,B false,B false,.und,.und,.und,.und,.und] ?_
         refine dy [3] [] (.hp 3 0 [] 4 0 3) rfl (al rfl rfl rfl) ?_
         refine dy [3] [] (I e4.Status) rfl (aO rfl rfl) ?_
         refine dk 2 [112,111] [B (e4.Status==4),B (e4.Status==4)] ?_
         obtain⟨u19,hu19,h⟩:=lJ h
         have j19:Run cO 0 (b7 (c_1,s_2,k_3) r) (.code dt::.code cZ::[]) (sT 129 [(3,.hp 1 0 [] 2 0 0),(4,.hp 2 0 [] 5 0 0),(7,.hp 3 0 [] 4 0 0),(117,B u19)] [⟨0,2,[.agg [.isl false (c_1.Parties.map str),.isl false (c_1.Clauses.map aa)]]⟩,⟨0,5,[.agg [I s_2.Day,.isl false (s_2.Facts.map str),.isl false (s_2.Duties.map ae),.isl false (s_2.Balances.map I),B s_2.Over]]⟩,⟨0,4,[ae e4]⟩] 4):=by
          subst h
          exact rf [3,4,7,117] [1,2,3] (j16 :)
         replace h:=hu19
         clear hu19
         refine sp 112 h rfl (fun h=>?_) fun h=>?_
         ·refine dy [2] [] (.hp 2 0 [] 5 0 4) rfl (al rfl rfl rfl) ?_
          refine dy [2] [] (B s_2.Over) rfl (aO rfl rfl) ?_
          refine dk 3 [117,116,115] [B (!s_2.Over),B (!s_2.Over),B (!s_2.Over)] ?_
          refine de 836 rfl rfl ?_
          subst h
          exact rf [3,4,7,117] [1,2,3] (j19 :)
         ·refine dk 5 [117,116,115,114,113] [B false,B false,.und,.und,.und] ?_
          refine de 836 rfl rfl ?_
          subst h
          exact rf [3,4,7,117] [1,2,3] (j19 :)
     ·refine dk 12 [96,95,94,93,92,91,90,89,88,87,86,85] [B false,B false,B false,.und,.und,.und,.und,.und,.und,.und,.und,.und] ?_
      refine dy [3] [] (.hp 3 0 [] 4 0 3) rfl (al rfl rfl rfl) ?_
      refine dy [3] [] (I e4.Status) rfl (aO rfl rfl) ?_
      refine dk 2 [100,99] [B (e4.Status==3),B (e4.Status==3)] ?_
      obtain⟨u20,hu20,h⟩:=lJ h
      have j20:Run cO 0 (b7 (c_1,s_2,k_3) r) (.code dt::.code cZ::[]) (sT 129 [(3,.hp 1 0 [] 2 0 0),(4,.hp 2 0 [] 5 0 0),(7,.hp 3 0 [] 4 0 0),(117,B u20)] [⟨0,2,[.agg [.isl false (c_1.Parties.map str),.isl false (c_1.Clauses.map aa)]]⟩,⟨0,5,[.agg [I s_2.Day,.isl false (s_2.Facts.map str),.isl false (s_2.Duties.map ae),.isl false (s_2.Balances.map I),B s_2.Over]]⟩,⟨0,4,[ae e4]⟩] 4):=by
       subst h
       exact rf [3,4,7,117] [1,2,3] (j13 :)
      replace h:=hu20
      clear hu20
      refine sp 100 h rfl (fun h=>?_) fun h=>?_
      ·refine dy [3] [] (.hp 3 0 [] 4 0 2) rfl (al rfl rfl rfl) ?_
       refine dy [3] [] (I e4.Due) rfl (aO rfl rfl) ?_
       refine dy [2] [] (.hp 2 0 [] 5 0 0) rfl (al rfl rfl rfl) ?_
       refine dy [2] [] (I s_2.Day) rfl (aO rfl rfl) ?_
       refine dk 4 [108,107,106,105] [B (decide (e4.Due≥s_2.Day)),B (decide (e4.Due≥s_2.Day)),B (decide (e4.Due≥s_2.Day)),B (decide (e4.Due≥s_2.Day))] ?_
       obtain⟨u21,hu21,h⟩:=lJ h
       have j21:Run cO 0 (b7 (c_1,s_2,k_3) r) (.code dt::.code cZ::[]) (sT 129 [(3,.hp 1 0 [] 2 0 0),(4,.hp 2 0 [] 5 0 0),(7,.hp 3 0 [] 4 0 0),(117,B u21)] [⟨0,2,[.agg [.isl false (c_1.Parties.map str),.isl false (c_1.Clauses.map aa)]]⟩,⟨0,5,[.agg [I s_2.Day,.isl false (s_2.Facts.map str),.isl false (s_2.Duties.map ae),.isl false (s_2.Balances.map I),B s_2.Over]]⟩,⟨0,4,[ae e4]⟩] 4):=by
        subst h
        exact rf [3,4,7,117] [1,2,3] (j20 :)
       replace h:=hu21
       clear hu21
       refine sp 108 h rfl (fun h=>?_) fun h=>?_
       ·refine dk 9 [117,116,115,114,113,112,111,110,109] [B true,.und,.und,.und,.und,.und,.und,.und,.und] ?_
        refine de 836 rfl rfl ?_
        subst h
        exact rf [3,4,7,117] [1,2,3] (j21 :)
       ·refine dy [3] [] (.hp 3 0 [] 4 0 3) rfl (al rfl rfl rfl) ?_
        refine dy [3] [] (I e4.Status) rfl (aO rfl rfl) ?_
        refine dk 2 [112,111] [B (e4.Status==4),B (e4.Status==4)] ?_
        obtain⟨u22,hu22,h⟩:=lJ h
        have j22:Run cO 0 (b7 (c_1,s_2,k_3) r) (.code dt::.code cZ::[]) (sT 129 [(3,.hp 1 0 [] 2 0 0),(4,.hp 2 0 [] 5 0 0),(7,.hp 3 0 [] 4 0 0),(117,B u22)] [⟨0,2,[.agg [.isl false (c_1.Parties.map str),.isl false (c_1.Clauses.map aa)]]⟩,⟨0,5,[.agg [I s_2.Day,.isl false (s_2.Facts.map str),.isl false (s_2.Duties.map ae),.isl false (s_2.Balances.map I),B s_2.Over]]⟩,⟨0,4,[ae e4]⟩] 4):=by
         subst h
         exact rf [3,4,7,117] [1,2,3] (j21 :)
        replace h:=hu22
        clear hu22
        refine sp 112 h rfl (fun h=>?_) fun h=>?_
        ·refine dy [2] [] (.hp 2 0 [] 5 0 4) rfl (al rfl rfl rfl) ?_
         refine dy [2] [] (B s_2.Over) rfl (aO rfl rfl) ?_
         refine dk 3 [117,116,115] [B (!s_2.Over),B (!s_2.Over),B (!s_2.Over)] ?_
         refine de 836 rfl rfl ?_
         subst h
         exact rf [3,4,7,117] [1,2,3] (j22 :)
        ·refine dk 5 [117,116,115,114,113] [B false,B false,.und,.und,.und] ?_
         refine de 836 rfl rfl ?_
         subst h
         exact rf [3,4,7,117] [1,2,3] (j22 :)
      ·refine dk 8 [108,107,106,105,104,103,102,101] [B false,B false,B false,.und,.und,.und,.und,.und] ?_
       refine dy [3] [] (.hp 3 0 [] 4 0 3) rfl (al rfl rfl rfl) ?_
       refine dy [3] [] (I e4.Status) rfl (aO rfl rfl) ?_
       refine dk 2 [112,111] [B (e4.Status==4),B (e4.Status==4)] ?_
       obtain⟨u23,hu23,h⟩:=lJ h
       have j23:Run cO 0 (b7 (c_1,s_2,k_3) r) (.code dt::.code cZ::[]) (sT 129 [(3,.hp 1 0 [] 2 0 0),(4,.hp 2 0 [] 5 0 0),(7,.hp 3 0 [] 4 0 0),(117,B u23)] [⟨0,2,[.agg [.isl false (c_1.Parties.map str),.isl false (c_1.Clauses.map aa)]]⟩,⟨0,5,[.agg [I s_2.Day,.isl false (s_2.Facts.map str),.isl false (s_2.Duties.map ae),.isl false (s_2.Balances.map I),B s_2.Over]]⟩,⟨0,4,[ae e4]⟩] 4):=by
        subst h
        exact rf [3,4,7,117] [1,2,3] (j20 :)
       replace h:=hu23
       clear hu23
       refine sp 112 h rfl (fun h=>?_) fun h=>?_
       ·refine dy [2] [] (.hp 2 0 [] 5 0 4) rfl (al rfl rfl rfl) ?_
        refine dy [2] [] (B s_2.Over) rfl (aO rfl rfl) ?_
        refine dk 3 [117,116,115] [B (!s_2.Over),B (!s_2.Over),B (!s_2.Over)] ?_
        refine de 836 rfl rfl ?_
        subst h
        exact rf [3,4,7,117] [1,2,3] (j23 :)
       ·refine dk 5 [117,116,115,114,113] [B false,B false,.und,.und,.und] ?_
        refine de 836 rfl rfl ?_
        subst h
        exact rf [3,4,7,117] [1,2,3] (j23 :)
   ·refine dk 12 [80,79,78,77,76,75,74,73,72,71,70,69] [B false,B false,.und,.und,.und,.und,.und,.und,.und,.und,.und,.und] ?_
    refine dy [3] [] (.hp 3 0 [] 4 0 3) rfl (al rfl rfl rfl) ?_
    refine dy [3] [] (I e4.Status) rfl (aO rfl rfl) ?_
    refine dk 2 [84,83] [B (e4.Status==1),B (e4.Status==1)] ?_
    obtain⟨u24,hu24,h⟩:=lJ h
    have j24:Run cO 0 (b7 (c_1,s_2,k_3) r) (.code dt::.code cZ::[]) (sT 129 [(3,.hp 1 0 [] 2 0 0),(4,.hp 2 0 [] 5 0 0),(7,.hp 3 0 [] 4 0 0),(117,B u24)] [⟨0,2,[.agg [.isl false (c_1.Parties.map str),.isl false (c_1.Clauses.map aa)]]⟩,⟨0,5,[.agg [I s_2.Day,.isl false (s_2.Facts.map str),.isl false (s_2.Duties.map ae),.isl false (s_2.Balances.map I),B s_2.Over]]⟩,⟨0,4,[ae e4]⟩] 4):=by
     exact rf [3,4,7,117] [1,2,3] (j7 _ (Option.some.inj h).symm :)
    replace h:=hu24
    clear hu24
    refine sp 84 h rfl (fun h=>?_) fun h=>?_
    ·refine dy [3] [] (.hp 3 0 [] 4 0 2) rfl (al rfl rfl rfl) ?_
     refine dy [3] [] (I e4.Due) rfl (aO rfl rfl) ?_
     refine dy [2] [] (.hp 2 0 [] 5 0 0) rfl (al rfl rfl rfl) ?_
     refine dy [2] [] (I s_2.Day) rfl (aO rfl rfl) ?_
     refine dk 2 [90,89] [B (decide (e4.Due<s_2.Day)),B (decide (e4.Due<s_2.Day))] ?_
     obtain⟨u25,hu25,h⟩:=lJ h
     have j25:Run cO 0 (b7 (c_1,s_2,k_3) r) (.code dt::.code cZ::[]) (sT 129 [(3,.hp 1 0 [] 2 0 0),(4,.hp 2 0 [] 5 0 0),(7,.hp 3 0 [] 4 0 0),(117,B u25)] [⟨0,2,[.agg [.isl false (c_1.Parties.map str),.isl false (c_1.Clauses.map aa)]]⟩,⟨0,5,[.agg [I s_2.Day,.isl false (s_2.Facts.map str),.isl false (s_2.Duties.map ae),.isl false (s_2.Balances.map I),B s_2.Over]]⟩,⟨0,4,[ae e4]⟩] 4):=by
      subst h
      exact rf [3,4,7,117] [1,2,3] (j24 :)
     replace h:=hu25
     clear hu25
     refine sp 90 h rfl (fun h=>?_) fun h=>?_
     ·refine dk 27 [117,116,115,114,113,112,111,110,109,108,107,106,105,104,103,102,101,100,99,98,97,96,95,94,93,92,91] [B true,.und,.und,.und,.und,.und,.und,.und,.und,B true,B true,.und,.und,.und,.und,.und,.und,.und,.und,.und,.und,B true,B true,B true,B true,.und,.und] ?_
      refine de 836 rfl rfl ?_
      subst h
      exact rf [3,4,7,117] [1,2,3] (j25 :)
     ·refine dy [2] [] (.hp 2 0 [] 5 0 4) rfl (al rfl rfl rfl) ?_
      refine dy [2] [] (B s_2.Over) rfl (aO rfl rfl) ?_
      refine dk 4 [96,95,94,93] [B s_2.Over,B s_2.Over,B s_2.Over,B s_2.Over] ?_
      obtain⟨u26,hu26,h⟩:=lJ h
      have j26:Run cO 0 (b7 (c_1,s_2,k_3) r) (.code dt::.code cZ::[]) (sT 129 [(3,.hp 1 0 [] 2 0 0),(4,.hp 2 0 [] 5 0 0),(7,.hp 3 0 [] 4 0 0),(117,B u26)] [⟨0,2,[.agg [.isl false (c_1.Parties.map str),.isl false (c_1.Clauses.map aa)]]⟩,⟨0,5,[.agg [I s_2.Day,.isl false (s_2.Facts.map str),.isl false (s_2.Duties.map ae),.isl false (s_2.Balances.map I),B s_2.Over]]⟩,⟨0,4,[ae e4]⟩] 4):=by
       subst h
       exact rf [3,4,7,117] [1,2,3] (j25 :)
      replace h:=hu26
      clear hu26
      refine sp 96 h rfl (fun h=>?_) fun h=>?_
      ·refine dk 21 [117,116,115,114,113,112,111,110,109,108,107,106,105,104,103,102,101,100,99,98,97] [B true,.und,.und,.und,.und,.und,.und,.und,.und,B true,B true,.und,.und,.und,.und,.und,.und,.und,.und,.und,.und] ?_
       refine de 836 rfl rfl ?_
       subst h
       exact rf [3,4,7,117] [1,2,3] (j26 :)
      ·refine dy [3] [] (.hp 3 0 [] 4 0 3) rfl (al rfl rfl rfl) ?_
       refine dy [3] [] (I e4.Status) rfl (aO rfl rfl) ?_
       refine dk 2 [100,99] [B (e4.Status==3),B (e4.Status==3)] ?_
       obtain⟨u27,hu27,h⟩:=lJ h
       have j27:Run cO 0 (b7 (c_1,s_2,k_3) r) (.code dt::.code cZ::[]) (sT 129 [(3,.hp 1 0 [] 2 0 0),(4,.hp 2 0 [] 5 0 0),(7,.hp 3 0 [] 4 0 0),(117,B u27)] [⟨0,2,[.agg [.isl false (c_1.Parties.map str),.isl false (c_1.Clauses.map aa)]]⟩,⟨0,5,[.agg [I s_2.Day,.isl false (s_2.Facts.map str),.isl false (s_2.Duties.map ae),.isl false (s_2.Balances.map I),B s_2.Over]]⟩,⟨0,4,[ae e4]⟩] 4):=by
        subst h
        exact rf [3,4,7,117] [1,2,3] (j26 :)
       replace h:=hu27
       clear hu27
       refine sp 100 h rfl (fun h=>?_) fun h=>?_
       ·refine dy [3] [] (.hp 3 0 [] 4 0 2) rfl (al rfl rfl rfl) ?_
        refine dy [3] [] (I e4.Due) rfl (aO rfl rfl) ?_
        refine dy [2] [] (.hp 2 0 [] 5 0 0) rfl (al rfl rfl rfl) ?_
        refine dy [2] [] (I s_2.Day) rfl (aO rfl rfl) ?_
        refine dk 4 [108,107,106,105] [B (decide (e4.Due≥s_2.Day)),B (decide (e4.Due≥s_2.Day)),B (decide (e4.Due≥s_2.Day)),B (decide (e4.Due≥s_2.Day))] ?_
        obtain⟨u28,hu28,h⟩:=lJ h
        have j28:Run cO 0 (b7 (c_1,s_2,k_3) r) (.code dt::.code cZ::[]) (sT 129 [(3,.hp 1 0 [] 2 0 0),(4,.hp 2 0 [] 5 0 0),(7,.hp 3 0 [] 4 0 0),(117,B u28)] [⟨0,2,[.agg [.isl false (c_1.Parties.map str),.isl false (c_1.Clauses.map aa)]]⟩,⟨0,5,[.agg [I s_2.Day,.isl false (s_2.Facts.map str),.isl false (s_2.Duties.map ae),.isl false (s_2.Balances.map I),B s_2.Over]]⟩,⟨0,4,[ae e4]⟩] 4):=by
         subst h
         exact rf [3,4,7,117] [1,2,3] (j27 :)
        replace h:=hu28
        clear hu28
        refine sp 108 h rfl (fun h=>?_) fun h=>?_
        ·refine dk 9 [117,116,115,114,113,112,111,110,109] [B true,.und,.und,.und,.und,.und,.und,.und,.und] ?_
         refine de 836 rfl rfl ?_
         subst h
         exact rf [3,4,7,117] [1,2,3] (j28 :)
        ·refine dy [3] [] (.hp 3 0 [] 4 0 3) rfl (al rfl rfl rfl) ?_
         refine dy [3] [] (I e4.Status) rfl (aO rfl rfl) ?_
         refine dk 2 [112,111] [B (e4.Status==4),B (e4.Status==4)] ?_
         obtain⟨u29,hu29,h⟩:=lJ h
         have j29:Run cO 0 (b7 (c_1,s_2,k_3) r) (.code dt::.code cZ::[]) (sT 129 [(3,.hp 1 0 [] 2 0 0),(4,.hp 2 0 [] 5 0 0),(7,.hp 3 0 [] 4 0 0),(117,B u29)] [⟨0,2,[.agg [.isl false (c_1.Parties.map str),.isl false (c_1.Clauses.map aa)]]⟩,⟨0,5,[.agg [I s_2.Day,.isl false (s_2.Facts.map str),.isl false (s_2.Duties.map ae),.isl false (s_2.Balances.map I),B s_2.Over]]⟩,⟨0,4,[ae e4]⟩] 4):=by
          subst h
          exact rf [3,4,7,117] [1,2,3] (j28 :)
         replace h:=hu29
         clear hu29
         refine sp 112 h rfl (fun h=>?_) fun h=>?_
         ·refine dy [2] [] (.hp 2 0 [] 5 0 4) rfl (al rfl rfl rfl) ?_
          refine dy [2] [] (B s_2.Over) rfl (aO rfl rfl) ?_
          refine dk 3 [117,116,115] [B (!s_2.Over),B (!s_2.Over),B (!s_2.Over)] ?_
          refine de 836 rfl rfl ?_
          subst h
          exact rf [3,4,7,117] [1,2,3] (j29 :)
         ·refine dk 5 [117,116,115,114,113] [B false,B false,.und,.und,.und] ?_
          refine de 836 rfl rfl ?_
          subst h
          exact rf [3,4,7,117] [1,2,3] (j29 :)
       ·refine dk 8 [108,107,106,105,104,103,102,101] [B false,B false,B false,.und,.und,.und,.und,.und] ?_
        refine dy [3] [] (.hp 3 0 [] 4 0 3) rfl (al rfl rfl rfl) ?_
        refine dy [3] [] (I e4.Status) rfl (aO rfl rfl) ?_
        refine dk 2 [112,111] [B (e4.Status==4),B (e4.Status==4)] ?_
        obtain⟨u30,hu30,h⟩:=lJ h
        have j30:Run cO 0 (b7 (c_1,s_2,k_3) r) (.code dt::.code cZ::[]) (sT 129 [(3,.hp 1 0 [] 2 0 0),(4,.hp 2 0 [] 5 0 0),(7,.hp 3 0 [] 4 0 0),(117,B u30)] [⟨0,2,[.agg [.isl false (c_1.Parties.map str),.isl false (c_1.Clauses.map aa)]]⟩,⟨0,5,[.agg [I s_2.Day,.isl false (s_2.Facts.map str),.isl false (s_2.Duties.map ae),.isl false (s_2.Balances.map I),B s_2.Over]]⟩,⟨0,4,[ae e4]⟩] 4):=by
         subst h
         exact rf [3,4,7,117] [1,2,3] (j27 :)
        replace h:=hu30
        clear hu30
        refine sp 112 h rfl (fun h=>?_) fun h=>?_
        ·refine dy [2] [] (.hp 2 0 [] 5 0 4) rfl (al rfl rfl rfl) ?_
         refine dy [2] [] (B s_2.Over) rfl (aO rfl rfl) ?_
         refine dk 3 [117,116,115] [B (!s_2.Over),B (!s_2.Over),B (!s_2.Over)] ?_
         refine de 836 rfl rfl ?_
         subst h
         exact rf [3,4,7,117] [1,2,3] (j30 :)
        ·refine dk 5 [117,116,115,114,113] [B false,B false,.und,.und,.und] ?_
         refine de 836 rfl rfl ?_
         subst h
         exact rf [3,4,7,117] [1,2,3] (j30 :)
    ·refine dk 12 [96,95,94,93,92,91,90,89,88,87,86,85] [B false,B false,B false,.und,.und,.und,.und,.und,.und,.und,.und,.und] ?_
     refine dy [3] [] (.hp 3 0 [] 4 0 3) rfl (al rfl rfl rfl) ?_
     refine dy [3] [] (I e4.Status) rfl (aO rfl rfl) ?_
     refine dk 2 [100,99] [B (e4.Status==3),B (e4.Status==3)] ?_
     obtain⟨u31,hu31,h⟩:=lJ h
     have j31:Run cO 0 (b7 (c_1,s_2,k_3) r) (.code dt::.code cZ::[]) (sT 129 [(3,.hp 1 0 [] 2 0 0),(4,.hp 2 0 [] 5 0 0),(7,.hp 3 0 [] 4 0 0),(117,B u31)] [⟨0,2,[.agg [.isl false (c_1.Parties.map str),.isl false (c_1.Clauses.map aa)]]⟩,⟨0,5,[.agg [I s_2.Day,.isl false (s_2.Facts.map str),.isl false (s_2.Duties.map ae),.isl false (s_2.Balances.map I),B s_2.Over]]⟩,⟨0,4,[ae e4]⟩] 4):=by
      subst h
      exact rf [3,4,7,117] [1,2,3] (j24 :)
     replace h:=hu31
     clear hu31
     refine sp 100 h rfl (fun h=>?_) fun h=>?_
     ·refine dy [3] [] (.hp 3 0 [] 4 0 2) rfl (al rfl rfl rfl) ?_
      refine dy [3] [] (I e4.Due) rfl (aO rfl rfl) ?_
      refine dy [2] [] (.hp 2 0 [] 5 0 0) rfl (al rfl rfl rfl) ?_
      refine dy [2] [] (I s_2.Day) rfl (aO rfl rfl) ?_
      refine dk 4 [108,107,106,105] [B (decide (e4.Due≥s_2.Day)),B (decide (e4.Due≥s_2.Day)),B (decide (e4.Due≥s_2.Day)),B (decide (e4.Due≥s_2.Day))] ?_
      obtain⟨u32,hu32,h⟩:=lJ h
      have j32:Run cO 0 (b7 (c_1,s_2,k_3) r) (.code dt::.code cZ::[]) (sT 129 [(3,.hp 1 0 [] 2 0 0),(4,.hp 2 0 [] 5 0 0),(7,.hp 3 0 [] 4 0 0),(117,B u32)] [⟨0,2,[.agg [.isl false (c_1.Parties.map str),.isl false (c_1.Clauses.map aa)]]⟩,⟨0,5,[.agg [I s_2.Day,.isl false (s_2.Facts.map str),.isl false (s_2.Duties.map ae),.isl false (s_2.Balances.map I),B s_2.Over]]⟩,⟨0,4,[ae e4]⟩] 4):=by
       subst h
       exact rf [3,4,7,117] [1,2,3] (j31 :)
      replace h:=hu32
      clear hu32
      refine sp 108 h rfl (fun h=>?_) fun h=>?_
      ·refine dk 9 [117,116,115,114,113,112,111,110,109] [B true,.und,.und,.und,.und,.und,.und,.und,.und] ?_
       refine de 836 rfl rfl ?_
       subst h
       exact rf [3,4,7,117] [1,2,3] (j32 :)
      ·refine dy [3] [] (.hp 3 0 [] 4 0 3) rfl (al rfl rfl rfl) ?_
       refine dy [3] [] (I e4.Status) rfl (aO rfl rfl) ?_
       refine dk 2 [112,111] [B (e4.Status==4),B (e4.Status==4)] ?_
       obtain⟨u33,hu33,h⟩:=lJ h
       have j33:Run cO 0 (b7 (c_1,s_2,k_3) r) (.code dt::.code cZ::[]) (sT 129 [(3,.hp 1 0 [] 2 0 0),(4,.hp 2 0 [] 5 0 0),(7,.hp 3 0 [] 4 0 0),(117,B u33)] [⟨0,2,[.agg [.isl false (c_1.Parties.map str),.isl false (c_1.Clauses.map aa)]]⟩,⟨0,5,[.agg [I s_2.Day,.isl false (s_2.Facts.map str),.isl false (s_2.Duties.map ae),.isl false (s_2.Balances.map I),B s_2.Over]]⟩,⟨0,4,[ae e4]⟩] 4):=by
        subst h
        exact rf [3,4,7,117] [1,2,3] (j32 :)
       replace h:=hu33
       clear hu33
       refine sp 112 h rfl (fun h=>?_) fun h=>?_
       ·refine dy [2] [] (.hp 2 0 [] 5 0 4) rfl (al rfl rfl rfl) ?_
        refine dy [2] [] (B s_2.Over) rfl (aO rfl rfl) ?_
        refine dk 3 [117,116,115] [B (!s_2.Over),B (!s_2.Over),B (!s_2.Over)] ?_
        refine de 836 rfl rfl ?_
        subst h
        exact rf [3,4,7,117] [1,2,3] (j33 :)
       ·refine dk 5 [117,116,115,114,113] [B false,B false,.und,.und,.und] ?_
        refine de 836 rfl rfl ?_
        subst h
        exact rf [3,4,7,117] [1,2,3] (j33 :)
     ·refine dk 8 [108,107,106,105,104,103,102,101] [B false,B false,B false,.und,.und,.und,.und,.und] ?_
      refine dy [3] [] (.hp 3 0 [] 4 0 3) rfl (al rfl rfl rfl) ?_
      refine dy [3] [] (I e4.Status) rfl (aO rfl rfl) ?_
      refine dk 2 [112,111] [B (e4.Status==4),B (e4.Status==4)] ?_
      obtain⟨u34,hu34,h⟩:=lJ h
      have j34:Run cO 0 (b7 (c_1,s_2,k_3) r) (.code dt::.code cZ::[]) (sT 129 [(3,.hp 1 0 [] 2 0 0),(4,.hp 2 0 [] 5 0 0),(7,.hp 3 0 [] 4 0 0),(117,B u34)] [⟨0,2,[.agg [.isl false (c_1.Parties.map str),.isl false (c_1.Clauses.map aa)]]⟩,⟨0,5,[.agg [I s_2.Day,.isl false (s_2.Facts.map str),.isl false (s_2.Duties.map ae),.isl false (s_2.Balances.map I),B s_2.Over]]⟩,⟨0,4,[ae e4]⟩] 4):=by
       subst h
       exact rf [3,4,7,117] [1,2,3] (j31 :)
      replace h:=hu34
      clear hu34
      refine sp 112 h rfl (fun h=>?_) fun h=>?_
      ·refine dy [2] [] (.hp 2 0 [] 5 0 4) rfl (al rfl rfl rfl) ?_
       refine dy [2] [] (B s_2.Over) rfl (aO rfl rfl) ?_
       refine dk 3 [117,116,115] [B (!s_2.Over),B (!s_2.Over),B (!s_2.Over)] ?_
       refine de 836 rfl rfl ?_
       subst h
       exact rf [3,4,7,117] [1,2,3] (j34 :)
      ·refine dk 5 [117,116,115,114,113] [B false,B false,.und,.und,.und] ?_
       refine de 836 rfl rfl ?_
       subst h
       exact rf [3,4,7,117] [1,2,3] (j34 :)
 have r6:∀r',y6=.inl r'→∀st,b7 (c_1,s_2,k_3) r' st→(b7 (c_1,s_2,k_3) r) st:=fun r' e st hq=>by rw[hy61 r' e] at hq;exact hq
 replace h:=hy6
 refine sp 21 h rfl (fun h=>?_) fun h=>?_
 ·refine dk 44 [65,64,63,62,61,60,59,58,57,56,55,54,53,52,51,50,49,48,47,46,45,44,43,42,41,40,39,38,37,36,35,34,33,32,31,30,29,28,27,26,25,24,23,22] [B true,.und,.und,.und,.und,B true,B true,.und,.und,.und,.und,B true,B true,.und,.und,.und,.und,.und,.und,.und,.und,.und,.und,.und,.und,.und,B true,B true,.und,.und,.und,.und,.und,.und,B true,B true,.und,.und,.und,.und,.und,.und,.und,.und] ?_
  refine de 1009 rfl rfl ?_
  exact rf [2,3,4,7,65] [1,17,129] (j6 _ (Option.some.inj h).symm :)
 ·refine dy [1] [] (.hp 1 0 [] 2 0 1) rfl (al rfl rfl rfl) ?_
  refine dy [1] [] (.isl false (c_1.Clauses.map aa)) rfl (aO rfl rfl) ?_
  refine dy [129] [] (.hp 129 0 [] 4 0 0) rfl (al rfl rfl rfl) ?_
  refine dy [129] [] (I e4.Clause) rfl (aO rfl rfl) ?_
  obtain⟨e35,he35,h⟩:=bS h
  refine dy [] [] (.iptr (.agg [str e35.Id,I e35.Kind,I e35.Party,str e35.Action,I e35.Other,I e35.Amount,I e35.When.Op,str e35.When.Name,I e35.When.Day,.isl false (e35.When.Parts.map ac),I e35.Within,str e35.Repair]) 0) rfl (an rfl rfl rfl (aM rfl rfl rfl rfl he35)) ?_
  refine dy [] [] (.iptr (.agg [str e35.Id,I e35.Kind,I e35.Party,str e35.Action,I e35.Other,I e35.Amount,I e35.When.Op,str e35.When.Name,I e35.When.Day,.isl false (e35.When.Parts.map ac),I e35.Within,str e35.Repair]) 1) rfl (al rfl rfl rfl) ?_
  refine dy [] [] (I e35.Kind) rfl (aO rfl rfl) ?_
  refine dk 3 [31,30,29] [B (e35.Kind != 1),B (e35.Kind != 1),B (e35.Kind != 1)] ?_
  obtain⟨y36,hy36,hy361,hy362⟩:=bL h
  have j36:∀u36,y36=.inr u36→Run cO 0 (b7 (c_1,s_2,k_3) r) (.code qN::.code mi::[]) (sT 129 [(2,I k_3),(3,.hp 1 0 [] 2 0 0),(4,.hp 2 0 [] 5 0 0),(7,.hp 3 0 [] 4 0 0),(65,B u36)] [⟨0,2,[.agg [.isl false (c_1.Parties.map str),.isl false (c_1.Clauses.map aa)]]⟩,⟨0,5,[.agg [I s_2.Day,.isl false (s_2.Facts.map str),.isl false (s_2.Duties.map ae),.isl false (s_2.Balances.map I),B s_2.Over]]⟩,⟨0,4,[ae e4]⟩] 4):=by
   intro u36 hu
   replace h:=hy362 u36 hu
   exact rf [2,3,4,7,65] [1,2,3] (j6 _ (Option.some.inj h).symm :)
  have r36:∀r',y36=.inl r'→∀st,b7 (c_1,s_2,k_3) r' st→(b7 (c_1,s_2,k_3) r) st:=fun r' e st hq=>r6 r' (hy361 r' e) st hq
  replace h:=hy36
  refine sp 31 h rfl (fun h=>?_) fun h=>?_
  ·refine dk 34 [65,64,63,62,61,60,59,58,57,56,55,54,53,52,51,50,49,48,47,46,45,44,43,42,41,40,39,38,37,36,35,34,33,32] [B true,.und,.und,.und,.und,B true,B true,.und,.und,.und,.und,B true,B true,.und,.und,.und,.und,.und,.und,.und,.und,.und,.und,.und,.und,.und,B true,B true,.und,.und,.und,.und,.und,.und] ?_
   refine de 1009 rfl rfl ?_
   exact rf [2,3,4,7,65] [1,17,129] (j36 _ (Option.some.inj h).symm :)
  ·refine dy [129] [] (.hp 129 0 [] 4 0 1) rfl (al rfl rfl rfl) ?_
   refine dy [129] [] (I e4.Since) rfl (aO rfl rfl) ?_
   refine dy [17] [] (.hp 17 0 [] 5 0 0) rfl (al rfl rfl rfl) ?_
   refine dy [17] [] (I s_2.Day) rfl (aO rfl rfl) ?_
   obtain⟨r37,hr37,h⟩:=bS h
   refine dy [] [] (B r37) rfl (cP (cY hr37)) ?_ (dj rfl rfl rfl rfl (ca (cT rfl) (ca (cT rfl) (ca (cT rfl) dD))) (cY hr37) (.inr rfl) rfl)
   refine dk 3 [39,38,37] [B (!r37),B (!r37),B (!r37)] ?_
   obtain⟨y38,hy38,hy381,hy382⟩:=bL h
   have j38:∀u38,y38=.inr u38→Run cO 0 (b7 (c_1,s_2,k_3) r) (.code qN::.code mi::[]) (sT 129 [(2,I k_3),(3,.hp 1 0 [] 2 0 0),(4,.hp 2 0 [] 5 0 0),(7,.hp 3 0 [] 4 0 0),(65,B u38)] [⟨0,2,[.agg [.isl false (c_1.Parties.map str),.isl false (c_1.Clauses.map aa)]]⟩,⟨0,5,[.agg [I s_2.Day,.isl false (s_2.Facts.map str),.isl false (s_2.Duties.map ae),.isl false (s_2.Balances.map I),B s_2.Over]]⟩,⟨0,4,[ae e4]⟩] 4):=by
    intro u38 hu
    replace h:=hy382 u38 hu
    exact rf [2,3,4,7,65] [1,2,3] (j36 _ (Option.some.inj h).symm :)
   have r38:∀r',y38=.inl r'→∀st,b7 (c_1,s_2,k_3) r' st→(b7 (c_1,s_2,k_3) r) st:=fun r' e st hq=>r36 r' (hy381 r' e) st hq
   replace h:=hy38
   refine sp 39 h rfl (fun h=>?_) fun h=>?_
   ·refine dk 26 [65,64,63,62,61,60,59,58,57,56,55,54,53,52,51,50,49,48,47,46,45,44,43,42,41,40] [B true,.und,.und,.und,.und,B true,B true,.und,.und,.und,.und,B true,B true,.und,.und,.und,.und,.und,.und,.und,.und,.und,.und,.und,.und,.und] ?_
    refine de 1009 rfl rfl ?_
    exact rf [2,3,4,7,65] [1,17,129] (j38 _ (Option.some.inj h).symm :)
   ·refine dy [129] [] (.hp 129 0 [] 4 0 2) rfl (al rfl rfl rfl) ?_
    refine dy [129] [] (I e4.Due) rfl (aO rfl rfl) ?_
    refine dy [129] [] (.hp 129 0 [] 4 0 1) rfl (al rfl rfl rfl) ?_
    refine dy [129] [] (I e4.Since) rfl (aO rfl rfl) ?_
    refine dy [1] [] (.hp 1 0 [] 2 0 1) rfl (al rfl rfl rfl) ?_
    refine dy [1] [] (.isl false (c_1.Clauses.map aa)) rfl (aO rfl rfl) ?_
    refine dy [129] [] (.hp 129 0 [] 4 0 0) rfl (al rfl rfl rfl) ?_
    refine dy [129] [] (I e4.Clause) rfl (aO rfl rfl) ?_
    obtain⟨e39,he39,h⟩:=bS h
    refine dy [] [] (.iptr (.agg [str e39.Id,I e39.Kind,I e39.Party,str e39.Action,I e39.Other,I e39.Amount,I e39.When.Op,str e39.When.Name,I e39.When.Day,.isl false (e39.When.Parts.map ac),I e39.Within,str e39.Repair]) 0) rfl (an rfl rfl rfl (aM rfl rfl rfl rfl he39)) ?_
    refine dy [] [] (.iptr (.agg [str e39.Id,I e39.Kind,I e39.Party,str e39.Action,I e39.Other,I e39.Amount,I e39.When.Op,str e39.When.Name,I e39.When.Day,.isl false (e39.When.Parts.map ac),I e39.Within,str e39.Repair]) 10) rfl (al rfl rfl rfl) ?_
    refine dy [] [] (I e39.Within) rfl (aO rfl rfl) ?_
    refine dk 4 [54,53,52,51] [B (e4.Due != (ar (e4.Since+e39.Within))),B (e4.Due != (ar (e4.Since+e39.Within))),B (e4.Due != (ar (e4.Since+e39.Within))),I (ar (e4.Since+e39.Within))] ?_
    obtain⟨y40,hy40,hy401,hy402⟩:=bL h
    have j40:∀u40,y40=.inr u40→Run cO 0 (b7 (c_1,s_2,k_3) r) (.code qN::.code mi::[]) (sT 129 [(2,I k_3),(3,.hp 1 0 [] 2 0 0),(4,.hp 2 0 [] 5 0 0),(7,.hp 3 0 [] 4 0 0),(65,B u40)] [⟨0,2,[.agg [.isl false (c_1.Parties.map str),.isl false (c_1.Clauses.map aa)]]⟩,⟨0,5,[.agg [I s_2.Day,.isl false (s_2.Facts.map str),.isl false (s_2.Duties.map ae),.isl false (s_2.Balances.map I),B s_2.Over]]⟩,⟨0,4,[ae e4]⟩] 4):=by
     intro u40 hu
     replace h:=hy402 u40 hu
     exact rf [2,3,4,7,65] [1,2,3] (j38 _ (Option.some.inj h).symm :)
    have r40:∀r',y40=.inl r'→∀st,b7 (c_1,s_2,k_3) r' st→(b7 (c_1,s_2,k_3) r) st:=fun r' e st hq=>r38 r' (hy401 r' e) st hq
    replace h:=hy40
    refine sp 54 h rfl (fun h=>?_) fun h=>?_
    ·refine dk 11 [65,64,63,62,61,60,59,58,57,56,55] [B true,.und,.und,.und,.und,B true,B true,.und,.und,.und,.und] ?_
     refine de 1009 rfl rfl ?_
     exact rf [2,3,4,7,65] [1,17,129] (j40 _ (Option.some.inj h).symm :)
    ·refine dy [129] [] (.hp 129 0 [] 4 0 2) rfl (al rfl rfl rfl) ?_
     refine dy [129] [] (I e4.Due) rfl (aO rfl rfl) ?_
     obtain⟨r41,hr41,h⟩:=bS h
     refine dy [] [] (B r41) rfl (cP (C1 hr41)) ?_ (dj rfl rfl rfl rfl (ca (cT rfl) dD) (C1 hr41) (.inr rfl) rfl)
     refine dk 3 [60,59,58] [B (!r41),B (!r41),B (!r41)] ?_
     obtain⟨y42,hy42,hy421,hy422⟩:=bL h
     have j42:∀u42,y42=.inr u42→Run cO 0 (b7 (c_1,s_2,k_3) r) (.code qN::.code mi::[]) (sT 129 [(2,I k_3),(3,.hp 1 0 [] 2 0 0),(4,.hp 2 0 [] 5 0 0),(7,.hp 3 0 [] 4 0 0),(65,B u42)] [⟨0,2,[.agg [.isl false (c_1.Parties.map str),.isl false (c_1.Clauses.map aa)]]⟩,⟨0,5,[.agg [I s_2.Day,.isl false (s_2.Facts.map str),.isl false (s_2.Duties.map ae),.isl false (s_2.Balances.map I),B s_2.Over]]⟩,⟨0,4,[ae e4]⟩] 4):=by
      intro u42 hu
      replace h:=hy422 u42 hu
      exact rf [2,3,4,7,65] [1,2,3] (j40 _ (Option.some.inj h).symm :)
     have r42:∀r',y42=.inl r'→∀st,b7 (c_1,s_2,k_3) r' st→(b7 (c_1,s_2,k_3) r) st:=fun r' e st hq=>r40 r' (hy421 r' e) st hq
     replace h:=hy42
     refine sp 60 h rfl (fun h=>?_) fun h=>?_
     ·refine dk 5 [65,64,63,62,61] [B true,.und,.und,.und,.und] ?_
      refine de 1009 rfl rfl ?_
      exact rf [2,3,4,7,65] [1,17,129] (j42 _ (Option.some.inj h).symm :)
     ·refine dy [129] [] (.hp 129 0 [] 4 0 3) rfl (al rfl rfl rfl) ?_
      refine dy [129] [] (I e4.Status) rfl (aO rfl rfl) ?_
      obtain⟨r43,hr43,h⟩:=bS h
      refine dy [] [] (B r43) rfl (cP (cY hr43)) ?_ (dj rfl rfl rfl rfl (ca (cT rfl) (ca (cT rfl) (ca (cT rfl) dD))) (cY hr43) (.inr rfl) rfl)
      refine dk 2 [65,64] [B (!r43),B (!r43)] ?_
      refine de 1009 rfl rfl ?_
      exact rf [2,3,4,7,65] [1,17,129] (j42 _ (Option.some.inj h).symm :)
theorem NK {G:Go.Ln.Ground}:aH Tryz.prog G 118 yK:=gT 3 0 (aD eU (aD NB (aD P2 (aD uT bf)))) (Checked.mixed Tryz.checked) Tryz.func118 (fun a r h=>Sp a.1 a.2.1 a.2.2 r h)
def Aa:Int→List V:=oA I
def Ay (r:Bool):V×List V:=(B r,[])
noncomputable def xA:Ent:=aP [false] Aa Ay fun x=>xi x
theorem UV {x_1:Int}{r}(h:xi x_1=some r):xA.F (Aa x_1)=some (Ay r):=aA (aB bO) h
noncomputable def UW:Code:=ay Tryz.f119
noncomputable def MC:Env:=bC Tryz.prog [(73,ed)]
def Vj (x:Int)(r:Bool):St→Prop:=QF MC Tryz.f119 [false] (Aa x) (Ay r)
theorem Rk (x_1:Int)(r:Bool)(h:xi x_1=some r):bc MC Tryz.f119 [false] 0 (Aa x_1) (Ay r):=by
 show Run _ _ (Vj x_1 r) [.code UW] _
 refine rI 5 [(0,I x_1)] [] 1 ?_
 unfold xi at h
 refine cq 7 [3] [I x_1] 33 ?_
 obtain⟨r2,hr2,h⟩:=bS h
 refine oq 49 (B r2) rfl (cP (cY hr2)) ?_
 refine cq 2 [2] [B r2] 65 ?_
 obtain rfl:=Option.some.inj h
 exact ai rfl (qp [B r2])
theorem O7 {G:Go.Ln.Ground}:aH Tryz.prog G 119 xA:=gT 1 0 (aD eU bf) (Checked.mixed Tryz.checked) Tryz.func119 (fun a r h=>Rk a r h)
def BQ:(List Int)→List V:=oA (ee I)
def zO (r:Int):V×List V:=(I r,[])
noncomputable def wX:Ent:=aP [false] BQ zO fun x=>rY x
theorem VQ {list_1:List Int}{r}(h:rY list_1=some r):wX.F (BQ list_1)=some (zO r):=aA (aB (bw bO)) h
noncomputable def O1:Code:=ay Tryz.f120
noncomputable def GR:Env:=bC Tryz.prog []
def M4 (x:(List Int))(r:Int):St→Prop:=QF GR Tryz.f120 [false] (BQ x) (zO r)
theorem IL (list_1:List Int):b9 GR 0 (M4 list_1) (cL (cL (cR (cL (cR (cR O1)))))) 0 (iJ list_1) (fun u=>(sT 18 [(3,I u)] [] 1)) fun x2=>(sT 18 [(0,.isl false (list_1.map I)),(3,I x2.1),(4,I x2.2)] [] 1):=dM (wc list_1) fun {Q K} hK self ih x2 y h hr hn=>by
 unfold i8 at h
 refine cq 5 [5,6] [I x2.2,.isl false (list_1.map I)] 33 ?_
 refine oq 49 (I (len list_1)) rfl (aW rfl rfl rfl (bb rfl)) ?_
 refine cq 2 [8] [B (decide (x2.2<(len list_1)))] 65 ?_
 refine sq h (fun h=>?_) fun h=>?_
 ·refine aq 1 ?_
  refine cq 6 [11,12,13] [I x2.1,.isl false (list_1.map I),I x2.2] 113 ?_
  obtain⟨e3,he3,h⟩:=bS h
  refine oq 129 (.iptr (I e3) 0) rfl (an rfl rfl rfl (aM rfl rfl rfl rfl he3)) ?_
  refine cq 10 [3,4] [I (ar (x2.1+e3)),I (ar (x2.2+1))] 225 ?_
  refine cE ?_
  exact rf [0,3,4] [] (ih _ _ h hr hn :)
 ·refine aq 1 ?_
  exact rf [3] [] (hn _ (Option.some.inj h).symm :) (hk:=hK)
theorem Sg (list_1:List Int)(r:Int)(h:rY list_1=some r):bc GR Tryz.f120 [false] 0 (BQ list_1) (zO r):=by
 show Run _ _ (M4 list_1 r) [.code O1] _
 refine rI 18 [(0,.isl false (list_1.map I))] [] 1 ?_
 unfold rY at h
 refine cq 14 [3,4] [I (0),I (0)] 49 ?_
 obtain⟨y4,hy4,hy41,hy42⟩:=bJ h
 refine bD rfl ?_
 refine rf [0,3,4] [] (IL list_1 rfl (0,0) _ hy4 (fun r' e st hq=>by rw[hy41 r' e] at hq;exact hq) fun u4 hu=>?_)
 replace h:=hy42 u4 hu
 refine cq 5 [2] [I u4] 33 ?_
 obtain rfl:=Option.some.inj h
 exact ai rfl (qp [I u4])
theorem Pv {G:Go.Ln.Ground}:aH Tryz.prog G 120 wX:=gT 1 0 bf (Checked.mixed Tryz.checked) Tryz.func120 (fun a r h=>Sg a r h)
def Ak:(Contract×State)→List V:=cA aG (oA bH)
def Ci (r:Bool):V×List V:=(B r,[])
noncomputable def yT:Ent:=aP [false,false] Ak Ci fun x=>rM x.1 x.2
theorem Vd {c_1:Contract}{s_2:State}{r}(h:rM c_1 s_2=some r):yT.F (Ak (c_1,s_2))=some (Ci r):=aA (aY aQ (aB cS)) h
noncomputable def ix:Code:=ay Tryz.f61
noncomputable def l6:Env:=bC Tryz.prog [(72,yw),(116,sH),(117,se),(118,yK),(119,xA),(120,wX),(114,oo),(115,yW)]
def iC (x:Contract×State)(r:Bool):St→Prop:=QF l6 Tryz.f61 [false,false] (Ak x) (Ci r)
theorem I2 (c_1:Contract)(s_2:State)(r5:(List ah)):b9 l6 0 (iC (c_1,s_2)) (cL (cL (cR (cL (cR (cR (cR ix))))))) 0 (qk c_1 s_2 r5) (fun u=>(sT 86 [(2,.hp 1 0 [] 2 0 0),(3,.hp 2 0 [] 5 0 0)] [⟨0,2,[.agg [.isl false (c_1.Parties.map str),.isl false (c_1.Clauses.map aa)]]⟩,⟨0,5,[.agg [I s_2.Day,.isl false (s_2.Facts.map str),.isl false (s_2.Duties.map ae),.isl false (s_2.Balances.map I),B s_2.Over]]⟩] 3)) fun x6=>(sT 86 [(2,.hp 1 0 [] 2 0 0),(3,.hp 2 0 [] 5 0 0),(5,.hs 3 0 [] 1 0 (r5.map str).length),(6,I x6)] [⟨0,2,[.agg [.isl false (c_1.Parties.map str),.isl false (c_1.Clauses.map aa)]]⟩,⟨0,5,[.agg [I s_2.Day,.isl false (s_2.Facts.map str),.isl false (s_2.Duties.map ae),.isl false (s_2.Balances.map I),B s_2.Over]]⟩,⟨0,1,r5.map str⟩] 4):=dM (vT c_1 s_2 r5) fun {Q K} hK self ih x6 y h hr hn=>by
 unfold lC at h
 refine cq 6 [41,43] [I x6,.isl false (s_2.Facts.map str)] 52 ?_
 refine oq 68 (I (len s_2.Facts)) rfl (aW rfl rfl rfl (bb rfl)) ?_
 refine cq 2 [45] [B (decide (x6<(len s_2.Facts)))] 84 ?_
 refine sq h (fun h=>?_) fun h=>?_
 ·refine aq 1 ?_
  refine cq 8 [48,50,51] [.hs 3 0 [] 1 0 (r5.map str).length,.isl false (s_2.Facts.map str),I x6] 148 ?_
  obtain⟨e7,he7,h⟩:=bS h
  refine oq 164 (.iptr (str e7) 0) rfl (an rfl rfl rfl (aM rfl rfl rfl rfl he7)) ?_
  refine cq 1 [53] [str e7] 180 ?_
  obtain⟨r8,hr8,h⟩:=bS h
  refine oq 196 (B r8) rfl (co rfl rfl (cM rfl rfl rfl (ca (X4 rfl rfl (d8 (f:=str) (g:=str) (xs:=r5) rfl rfl (bV em))) (ca (cT rfl) dD)) (H3 hr8) (.inl rfl) ec rfl rfl rfl)) ?_
  refine cq 2 [55] [B (!r8)] 212 ?_
  refine sq h (fun h=>?_) fun h=>?_
  ·refine cq 4 [4] [B false] 228 ?_
   exact ai rfl (hr _ (Option.some.inj h).symm _ (qp [B false]))
  ·refine aq 1 ?_
   refine cq 6 [6] [I (ar (x6+1))] 260 ?_
   refine cE ?_
   exact rf [2,3,5,6] [1,2,3] (ih _ _ h hr hn :)
 ·refine aq 1 ?_
  exact rf [2,3] [1,2] (hn _ (Option.some.inj h).symm :) (hk:=hK)
theorem JF (c_1:Contract)(s_2:State):b9 l6 0 (iC (c_1,s_2)) (cL (cL (cR (cL (cR (cR (cR (cR ix)))))))) 2 (lr c_1 s_2) (fun u=>(sT 86 [(3,.hp 1 0 [] 5 0 0)] [⟨0,5,[.agg [I s_2.Day,.isl false (s_2.Facts.map str),.isl false (s_2.Duties.map ae),.isl false (s_2.Balances.map I),B s_2.Over]]⟩] 2)) fun x10=>(sT 86 [(2,.hp 1 0 [] 2 0 0),(3,.hp 2 0 [] 5 0 0),(7,I x10)] [⟨0,2,[.agg [.isl false (c_1.Parties.map str),.isl false (c_1.Clauses.map aa)]]⟩,⟨0,5,[.agg [I s_2.Day,.isl false (s_2.Facts.map str),.isl false (s_2.Duties.map ae),.isl false (s_2.Balances.map I),B s_2.Over]]⟩] 3):=dM (vR c_1 s_2) fun {Q K} hK self ih x10 y h hr hn=>by
 unfold jc at h
 refine cq 6 [56,58] [I x10,.isl false (s_2.Duties.map ae)] 51 ?_
 refine oq 67 (I (len s_2.Duties)) rfl (aW rfl rfl rfl (bb rfl)) ?_
 refine cq 2 [60] [B (decide (x10<(len s_2.Duties)))] 83 ?_
 refine sq h (fun h=>?_) fun h=>?_
 ·refine aq 1 ?_
  refine cq 7 [63,64,65] [.agg [.isl false (c_1.Parties.map str),.isl false (c_1.Clauses.map aa)],.agg [I s_2.Day,.isl false (s_2.Facts.map str),.isl false (s_2.Duties.map ae),.isl false (s_2.Balances.map I),B s_2.Over],I x10] 131 ?_
  obtain⟨r11,hr11,h⟩:=bS h
  refine oq 147 (B r11) rfl (cP (UX hr11)) ?_
  refine cq 2 [67] [B (!r11)] 163 ?_
  refine sq h (fun h=>?_) fun h=>?_
  ·refine cq 4 [4] [B false] 179 ?_
   exact ai rfl (hr _ (Option.some.inj h).symm _ (qp [B false]))
  ·refine aq 1 ?_
   refine cq 6 [7] [I (ar (x10+1))] 211 ?_
   refine cE ?_
   exact rf [2,3,7] [1,2] (ih _ _ h hr hn :)
 ·refine aq 1 ?_
  exact rf [3] [2] (hn _ (Option.some.inj h).symm :) (hk:=hK)
theorem Jc (c_1:Contract)(s_2:State):b9 l6 0 (iC (c_1,s_2)) (cL (cL (cR (cL (cR (cR (cR (cR (cR ix))))))))) 4 (qS c_1 s_2) (fun u=>(sT 86 [(3,.hp 1 0 [] 5 0 0)] [⟨0,5,[.agg [I s_2.Day,.isl false (s_2.Facts.map str),.isl false (s_2.Duties.map ae),.isl false (s_2.Balances.map I),B s_2.Over]]⟩] 2)) fun x13=>(sT 86 [(3,.hp 1 0 [] 5 0 0),(8,I x13)] [⟨0,5,[.agg [I s_2.Day,.isl false (s_2.Facts.map str),.isl false (s_2.Duties.map ae),.isl false (s_2.Balances.map I),B s_2.Over]]⟩] 2):=dM (v7 c_1 s_2) fun {Q K} hK self ih x13 y h hr hn=>by
 unfold kT at h
 refine cq 6 [68,70] [I x13,.isl false (s_2.Balances.map I)] 50 ?_
 refine oq 66 (I (len s_2.Balances)) rfl (aW rfl rfl rfl (bb rfl)) ?_
 refine cq 2 [72] [B (decide (x13<(len s_2.Balances)))] 82 ?_
 refine sq h (fun h=>?_) fun h=>?_
 ·refine aq 1 ?_
  refine cq 7 [76,77] [.isl false (s_2.Balances.map I),I x13] 130 ?_
  obtain⟨e14,he14,h⟩:=bS h
  refine oq 146 (.iptr (I e14) 0) rfl (an rfl rfl rfl (aM rfl rfl rfl rfl he14)) ?_
  refine cq 1 [79] [I e14] 162 ?_
  obtain⟨r15,hr15,h⟩:=bS h
  refine oq 178 (B r15) rfl (cP (UV hr15)) ?_
  refine cq 2 [81] [B (!r15)] 194 ?_
  refine sq h (fun h=>?_) fun h=>?_
  ·refine cq 4 [4] [B false] 210 ?_
   exact ai rfl (hr _ (Option.some.inj h).symm _ (qp [B false]))
  ·refine aq 1 ?_
   refine cq 6 [8] [I (ar (x13+1))] 242 ?_
   refine cE ?_
   exact rf [3,8] [1] (ih _ _ h hr hn :)
 ·refine aq 1 ?_
  exact rf [3] [1] (hn _ (Option.some.inj h).symm :) (hk:=hK)
theorem Q8 (c_1:Contract)(s_2:State)(r:Bool)(h:rM c_1 s_2=some r):bc l6 Tryz.f61 [false,false] 0 (Ak (c_1,s_2)) (Ci r):=by
 show Run _ _ (iC (c_1,s_2) r) [.code ix] _
 refine rI 86 [(0,.agg [.isl false (c_1.Parties.map str),.isl false (c_1.Clauses.map aa)]),(1,.agg [I s_2.Day,.isl false (s_2.Facts.map str),.isl false (s_2.Duties.map ae),.isl false (s_2.Balances.map I),B s_2.Over])] [] 1 ?_
 unfold rM at h
 refine ck 10 [2,3,9] [] [1,17] [] [.hp 1 0 [] 2 0 0,.hp 17 0 [] 5 0 0,.agg [.isl false (c_1.Parties.map str),.isl false (c_1.Clauses.map aa)]] [some ⟨0,2,[.agg [.isl false (c_1.Parties.map str),.isl false (c_1.Clauses.map aa)]]⟩,some ⟨0,5,[.agg [I s_2.Day,.isl false (s_2.Facts.map str),.isl false (s_2.Duties.map ae),.isl false (s_2.Balances.map I),B s_2.Over]]⟩] 65 (by kernel_rfl) ?_
 obtain⟨r3,hr3,h⟩:=bS h
 refine oq 81 (B r3) rfl (cP (VZ hr3)) ?_
 refine cq 2 [12] [B (!r3)] 113 ?_
 obtain⟨y4,hy4,hy41,hy42⟩:=bJ h
 have j4:∀u4,y4=.inr u4→Run l6 0 (iC (c_1,s_2) r) (.code (cR (cL (cR ix)))::.code (cR (cR ix))::[]) (sT 86 [(2,.hp 1 0 [] 2 0 0),(3,.hp 2 0 [] 5 0 0),(38,B u4)] [⟨0,2,[.agg [.isl false (c_1.Parties.map str),.isl false (c_1.Clauses.map aa)]]⟩,⟨0,5,[.agg [I s_2.Day,.isl false (s_2.Facts.map str),.isl false (s_2.Duties.map ae),.isl false (s_2.Balances.map I),B s_2.Over]]⟩] 3):=by
  intro u4 hu
  replace h:=hy42 u4 hu
  refine sq h (fun h=>?_) fun h=>?_
  ·refine cq 4 [4] [B false] 19 ?_
   obtain rfl:=Option.some.inj h
   exact ai rfl (qp [B false])
  ·refine aq 1 ?_
   refine cq 3 [39] [.agg [.isl false (c_1.Parties.map str),.isl false (c_1.Clauses.map aa)]] 19 ?_
   obtain⟨r5,hr5,h⟩:=bS h
   refine oq 35 (.hs 19 0 [] 1 0 (r5.map str).length) rfl (cP (PP hr5)) ?_
   refine cq 8 [5,6] [.hs 19 0 [] 1 0 (r5.map str).length,I (0)] 67 ?_
   obtain⟨y9,hy9,hy91,hy92⟩:=bJ h
   refine bD rfl ?_
   refine rf [2,3,5,6] [1,2,19] (I2 c_1 s_2 r5 rfl 0 _ hy9 (fun r' e st hq=>by rw[hy91 r' e] at hq;exact hq) fun u9 hu=>?_)
   replace h:=hy92 u9 hu
   refine cq 6 [7] [I (0)] 19 ?_
   obtain⟨y12,hy12,hy121,hy122⟩:=bJ h
   refine bD rfl ?_
   refine rf [2,3,7] [1,2] (JF c_1 s_2 rfl 0 _ hy12 (fun r' e st hq=>by rw[hy121 r' e] at hq;exact hq) fun u12 hu=>?_)
   replace h:=hy122 u12 hu
   refine cq 6 [8] [I (0)] 18 ?_
   obtain⟨y16,hy16,hy161,hy162⟩:=bJ h
   refine bD rfl ?_
   refine rf [3,8] [1] (Jc c_1 s_2 rfl 0 _ hy16 (fun r' e st hq=>by rw[hy161 r' e] at hq;exact hq) fun u16 hu=>?_)
   replace h:=hy162 u16 hu
   refine cq 4 [83] [.isl false (s_2.Balances.map I)] 34 ?_
   obtain⟨r17,hr17,h⟩:=bS h
   refine oq 50 (I r17) rfl (cP (VQ hr17)) ?_
   refine cq 3 [4] [B (r17==0)] 82 ?_
   obtain rfl:=Option.some.inj h
   exact ai rfl (qp [B (r17==0)])
 have r4:∀r',y4=.inl r'→∀st,iC (c_1,s_2) r' st→(iC (c_1,s_2) r) st:=fun r' e st hq=>by rw[hy41 r' e] at hq;exact hq
 replace h:=hy4
 refine sp 12 h rfl (fun h=>?_) fun h=>?_
 ·refine cq 27 [38] [B true] 529 ?_
  exact rf [2,3,38] [1,17] (j4 _ (Option.some.inj h).symm :)
 ·refine cq 2 [14] [I s_2.Day] 145 ?_
  obtain⟨r18,hr18,h⟩:=bS h
  refine oy 161 (B r18) rfl (cP (C1 hr18)) ?_
  refine cq 3 [18] [B (!r18)] 209 ?_
  obtain⟨y19,hy19,hy191,hy192⟩:=bL h
  have j19:∀u19,y19=.inr u19→Run l6 0 (iC (c_1,s_2) r) (.code (cR (cL (cR ix)))::.code (cR (cR ix))::[]) (sT 86 [(2,.hp 1 0 [] 2 0 0),(3,.hp 2 0 [] 5 0 0),(38,B u19)] [⟨0,2,[.agg [.isl false (c_1.Parties.map str),.isl false (c_1.Clauses.map aa)]]⟩,⟨0,5,[.agg [I s_2.Day,.isl false (s_2.Facts.map str),.isl false (s_2.Duties.map ae),.isl false (s_2.Balances.map I),B s_2.Over]]⟩] 3):=by
   intro u19 hu
   replace h:=hy192 u19 hu
   exact rf [2,3,38] [1,2] (j4 _ (Option.some.inj h).symm :)
  have r19:∀r',y19=.inl r'→∀st,iC (c_1,s_2) r' st→(iC (c_1,s_2) r) st:=fun r' e st hq=>r4 r' (hy191 r' e) st hq
  replace h:=hy19
  refine sp 18 h rfl (fun h=>?_) fun h=>?_
  ·refine cq 21 [38] [B true] 529 ?_
   exact rf [2,3,38] [1,17] (j19 _ (Option.some.inj h).symm :)
  ·refine cq 2 [20] [.isl false (s_2.Facts.map str)] 241 ?_
   obtain⟨r20,hr20,h⟩:=bS h
   refine oy 257 (B r20) rfl (cP (W5 hr20)) ?_
   refine cq 3 [24] [B (!r20)] 305 ?_
   obtain⟨u21,hu21,h⟩:=lJ h
   have j21:Run l6 0 (iC (c_1,s_2) r) (.code (cR (cL (cR ix)))::.code (cR (cR ix))::[]) (sT 86 [(2,.hp 1 0 [] 2 0 0),(3,.hp 2 0 [] 5 0 0),(38,B u21)] [⟨0,2,[.agg [.isl false (c_1.Parties.map str),.isl false (c_1.Clauses.map aa)]]⟩,⟨0,5,[.agg [I s_2.Day,.isl false (s_2.Facts.map str),.isl false (s_2.Duties.map ae),.isl false (s_2.Balances.map I),B s_2.Over]]⟩] 3):=by
    exact rf [2,3,38] [1,2] (j19 _ (Option.some.inj h).symm :)
   replace h:=hu21
   clear hu21
   refine sp 24 h rfl (fun h=>?_) fun h=>?_
   ·refine cq 15 [38] [B true] 529 ?_
    subst h
    exact rf [2,3,38] [1,17] (j21 :)
   ·refine cq 2 [26] [.isl false (s_2.Duties.map ae)] 337 ?_
    refine oy 353 (I (len s_2.Duties)) rfl (aW rfl rfl rfl (bb rfl)) ?_
    refine cq 3 [30] [B (decide ((len s_2.Duties)>24))] 401 ?_
    obtain⟨u22,hu22,h⟩:=lJ h
    have j22:Run l6 0 (iC (c_1,s_2) r) (.code (cR (cL (cR ix)))::.code (cR (cR ix))::[]) (sT 86 [(2,.hp 1 0 [] 2 0 0),(3,.hp 2 0 [] 5 0 0),(38,B u22)] [⟨0,2,[.agg [.isl false (c_1.Parties.map str),.isl false (c_1.Clauses.map aa)]]⟩,⟨0,5,[.agg [I s_2.Day,.isl false (s_2.Facts.map str),.isl false (s_2.Duties.map ae),.isl false (s_2.Balances.map I),B s_2.Over]]⟩] 3):=by
     subst h
     exact rf [2,3,38] [1,2] (j21 :)
    replace h:=hu22
    clear hu22
    refine sp 30 h rfl (fun h=>?_) fun h=>?_
    ·refine cq 9 [38] [B true] 529 ?_
     subst h
     exact rf [2,3,38] [1,17] (j22 :)
    ·refine cq 2 [32] [.isl false (s_2.Balances.map I)] 433 ?_
     refine oy 449 (I (len s_2.Balances)) rfl (aW rfl rfl rfl (bb rfl)) ?_
     refine cq 2 [35] [.isl false (c_1.Parties.map str)] 481 ?_
     refine oy 497 (I (len c_1.Parties)) rfl (aW rfl rfl rfl (bb rfl)) ?_
     refine cq 3 [38] [B ((len s_2.Balances) != (len c_1.Parties))] 529 ?_
     subst h
     exact rf [2,3,38] [1,17] (j22 :)
theorem OJ {G:Go.Ln.Ground}:aH Tryz.prog G 61 yT:=gT 2 0 (aD MR (aD E6 (aD E2 (aD NK (aD O7 (aD Pv (aD uT (aD MP bf)))))))) (Checked.mixed Tryz.checked) Tryz.func61 (fun a r h=>Q8 a.1 a.2 r h)
def zk:(Contract×State)→List V:=cA aG (oA bH)
def CR (r:Bool×Bool):V×List V:=(.tup [B r.1,B r.2],[])
noncomputable def xm:Ent:=aP [false,false] zk CR fun x=>xy x.1 x.2
theorem Nk {c_1:Contract}{s_2:State}{r}(h:xy c_1 s_2=some r):xm.F (zk (c_1,s_2))=some (CR r):=aA (aY aQ (aB cS)) h
noncomputable def MY:Code:=ay Tryz.f23
noncomputable abbrev vu:Code:=cL (cL (cR (cL (cR (cR MY)))))
noncomputable def Bj:Env:=bC Tryz.prog [(61,yT)]
def Ip (x:Contract×State)(r:Bool×Bool):St→Prop:=QF Bj Tryz.f23 [false,false] (zk x) (CR r)
theorem Jk (c_1:Contract)(s_2:State):b9 Bj 0 (Ip (c_1,s_2)) vu 0 (qH c_1 s_2) (fun u=>(sT 34 [] [] 1)) fun x4=>(sT 34 [(3,.hp 1 0 [] 5 0 0),(6,I x4)] [⟨0,5,[.agg [I s_2.Day,.isl false (s_2.Facts.map str),.isl false (s_2.Duties.map ae),.isl false (s_2.Balances.map I),B s_2.Over]]⟩] 2):=dM (ww c_1 s_2) fun {Q K} hK self ih x4 y h hr hn=>by
 unfold lu at h
 refine cq 6 [11,13] [I x4,.isl false (s_2.Duties.map ae)] 50 ?_
 refine oq 66 (I (len s_2.Duties)) rfl (aW rfl rfl rfl (bb rfl)) ?_
 refine cq 2 [15] [B (decide (x4<(len s_2.Duties)))] 82 ?_
 refine sq h (fun h=>?_) fun h=>?_
 ·refine aq 1 ?_
  refine cq 7 [19,20] [.isl false (s_2.Duties.map ae),I x4] 130 ?_
  obtain⟨e5,he5,h⟩:=bS h
  refine oq 146 (.iptr (ae e5) 0) rfl (an rfl rfl rfl (aM rfl rfl rfl rfl he5)) ?_
  refine cq 4 [25] [B (e5.Status==1)] 210 ?_
  obtain⟨y6,hy6,hy61,hy62⟩:=bL h
  have j6:∀u6,y6=.inr u6→Run Bj 0 Q (.code (cR (cL (cL (cR vu))))::.blk 1::.code (cR (cR vu))::.lp vu::.blk 0::K) (sT 34 [(3,.hp 1 0 [] 5 0 0),(6,I x4),(33,B u6)] [⟨0,5,[.agg [I s_2.Day,.isl false (s_2.Facts.map str),.isl false (s_2.Duties.map ae),.isl false (s_2.Balances.map I),B s_2.Over]]⟩] 2):=by
   intro u6 hu
   replace h:=hy62 u6 hu
   refine sq h (fun h=>?_) fun h=>?_
   ·refine cq 5 [4,5] [B false,B true] 34 ?_
    exact ai rfl (hr _ (Option.some.inj h).symm _ (qp [B false,B true]))
   ·refine aq 1 ?_
    refine cq 6 [6] [I (ar (x4+1))] 50 ?_
    refine cE ?_
    exact rf [3,6] [1] (ih _ _ h hr hn :)
  have r6:∀r',y6=.inl r'→∀st,Ip (c_1,s_2) r' st→Q st:=fun r' e st hq=>hr r' (hy61 r' e) st hq
  replace h:=hy6
  refine sp 25 h rfl (fun h=>?_) fun h=>?_
  ·refine cq 9 [33] [B true] 338 ?_
   exact rf [3,6,33] [1] (j6 _ (Option.some.inj h).symm :)
  ·refine cq 3 [27,28] [.isl false (s_2.Duties.map ae),I x4] 258 ?_
   obtain⟨e7,he7,h⟩:=bS h
   refine oy 274 (.iptr (ae e7) 0) rfl (an rfl rfl rfl (aM rfl rfl rfl rfl he7)) ?_
   refine cq 5 [33] [B (e7.Status==3)] 338 ?_
   exact rf [3,6,33] [1] (j6 _ (Option.some.inj h).symm :)
 ·refine aq 1 ?_
  exact rf [] [] (hn _ (Option.some.inj h).symm :) (hk:=hK)
theorem R7 (c_1:Contract)(s_2:State)(r:Bool×Bool)(h:xy c_1 s_2=some r):bc Bj Tryz.f23 [false,false] 0 (zk (c_1,s_2)) (CR r):=by
 show Run _ _ (Ip (c_1,s_2) r) [.code MY] _
 refine rI 34 [(0,.agg [.isl false (c_1.Parties.map str),.isl false (c_1.Clauses.map aa)]),(1,.agg [I s_2.Day,.isl false (s_2.Facts.map str),.isl false (s_2.Duties.map ae),.isl false (s_2.Balances.map I),B s_2.Over])] [] 1 ?_
 unfold xy at h
 refine ck 12 [3,7,8] [] [17] [] [.hp 17 0 [] 5 0 0,.agg [.isl false (c_1.Parties.map str),.isl false (c_1.Clauses.map aa)],.agg [I s_2.Day,.isl false (s_2.Facts.map str),.isl false (s_2.Duties.map ae),.isl false (s_2.Balances.map I),B s_2.Over]] [some ⟨0,5,[.agg [I s_2.Day,.isl false (s_2.Facts.map str),.isl false (s_2.Duties.map ae),.isl false (s_2.Balances.map I),B s_2.Over]]⟩] 97 (by kernel_rfl) ?_
 obtain⟨r3,hr3,h⟩:=bS h
 refine oq 113 (B r3) rfl (cP (Vd hr3)) ?_
 refine cq 2 [10] [B (!r3)] 129 ?_
 refine sq h (fun h=>?_) fun h=>?_
 ·refine cq 5 [4,5] [B false,B false] 161 ?_
  obtain rfl:=Option.some.inj h
  exact ai rfl (qp [B false,B false])
 ·refine aq 1 ?_
  refine cq 6 [6] [I (0)] 145 ?_
  obtain⟨y8,hy8,hy81,hy82⟩:=bJ h
  refine bD rfl ?_
  refine rf [3,6] [17] (Jk c_1 s_2 rfl 0 _ hy8 (fun r' e st hq=>by rw[hy81 r' e] at hq;exact hq) fun u8 hu=>?_)
  replace h:=hy82 u8 hu
  refine cq 5 [4,5] [B true,B true] 33 ?_
  obtain rfl:=Option.some.inj h
  exact ai rfl (qp [B true,B true])
theorem NZ {G:Go.Ln.Ground}:aH Tryz.prog G 23 xm:=gT 2 0 (aD OJ bf) (Checked.mixed Tryz.checked) Tryz.func23 (fun a r h=>R7 a.1 a.2 r h)
def Fv:(Int×Int×Int)→List V:=cA I (cA I (oA I))
def FU (r:Bool):V×List V:=(B r,[])
noncomputable def iI:Ent:=aP [false,false,false] Fv FU fun x=>kj x.1 x.2.1 x.2.2
theorem iV {n_1:Int}{low_2:Int}{high_3:Int}{r}(h:kj n_1 low_2 high_3=some r):iI.F (Fv (n_1,low_2,high_3))=some (FU r):=aA (aY bO (aY bO (aB bO))) h
noncomputable def Td:Code:=ay Tryz.f86
noncomputable def KU:Env:=bC Tryz.prog []
def Ta (x:Int×Int×Int)(r:Bool):St→Prop:=QF KU Tryz.f86 [false,false,false] (Fv x) (FU r)
theorem Uf (n_1:Int)(low_2:Int)(high_3:Int)(r:Bool)(h:kj n_1 low_2 high_3=some r):bc KU Tryz.f86 [false,false,false] 0 (Fv (n_1,low_2,high_3)) (FU r):=by
 show Run _ _ (Ta (n_1,low_2,high_3) r) [.code Td] _
 refine rI 15 [(0,I n_1),(1,I low_2),(2,I high_3)] [] 1 ?_
 unfold kj at h
 refine cq 10 [10] [B (decide (n_1≥low_2))] 81 ?_
 obtain⟨u4,hu4,h⟩:=lJ h
 have j4:Run KU 0 (Ta (n_1,low_2,high_3) r) (.code (cR (cR Td))::[]) (sT 15 [(6,B u4)] [] 1):=by
  obtain rfl:=Option.some.inj h
  exact ai rfl (qp [B u4])
 replace h:=hu4
 clear hu4
 refine sp 10 h rfl (fun h=>?_) fun h=>?_
 ·refine cq 6 [6] [B (decide (n_1≤high_3))] 161 ?_
  subst h
  exact rf [6] [] (j4 :)
 ·refine cq 6 [6] [B false] 161 ?_
  subst h
  exact rf [6] [] (j4 :)
theorem jD {G:Go.Ln.Ground}:aH Tryz.prog G 86 iI:=gT 3 0 bf (Checked.mixed Tryz.checked) Tryz.func86 (fun a r h=>Uf a.1 a.2.1 a.2.2 r h)
noncomputable def ir:Ent:=⟨[false,false],ru (mI str) (mI (V.int .u8)) fun s c=>some (I ((Lib.countByte s c.toNat.toUInt8:Nat):Int),[])⟩
theorem DQ {s:ah}{c r:Int}(h:tY s c=some r):ir.F [str s,.int .u8 c]=some (I r,[]):=by
 cases h
 simp only[ir,ru,zS bm,zS MK,Option.bind_some]
theorem Es:Extern.findNext Tryz.f266=none:=by kernel_rfl
theorem Dt:Extern.find Tryz.f266=some Extern.BytealgCount.count:=by kernel_rfl
theorem vv {G:Go.Ln.Ground}:aH Tryz.prog G 266 ir:=JW (g:=fun s c=>((Lib.countByte s c.toNat.toUInt8:Nat):Int)) Tryz.func266 rfl (by decide) Es Dt fun s c w=>Lib.run_countString s c w
noncomputable def fN:Ent:=⟨[false,false],ru (mI str) (mI (V.int .u8)) fun s c=>some (I (Lib.indexByte s c.toNat.toUInt8),[])⟩
theorem uz {s:ah}{c r:Int}(h:oE s c=some r):fN.F [str s,.int .u8 c]=some (I r,[]):=by
 cases h
 simp only[fN,ru,zS bm,zS MK,Option.bind_some]
theorem uq:Extern.findNext Tryz.f286=none:=by kernel_rfl
theorem tg:Extern.find Tryz.f286=some Extern.BytealgIndexByte.indexByte:=by kernel_rfl
theorem qg {G:Go.Ln.Ground}:aH Tryz.prog G 286 fN:=JW (g:=fun s c=>Lib.indexByte s c.toNat.toUInt8) Tryz.func286 rfl (by decide) uq tg fun s c w=>Lib.run_indexByteString s c w
def Bn:(ah×Int)→List V:=cA str (oA (V.int .u8))
def Ai (r:Int):V×List V:=(I r,[])
noncomputable def yO:Ent:=aP [false,false] Bn Ai fun x=>G7 x.1 x.2
theorem Vi {s_1:ah}{c_2:Int}{r}(h:G7 s_1 c_2=some r):yO.F (Bn (s_1,c_2))=some (Ai r):=aA (aY bm (aB (GS (k:=.u8)))) h
noncomputable def Wo:Code:=ay Tryz.f277
noncomputable def L8:Env:=bC Tryz.prog [(286,fN)]
def Vv (x:ah×Int)(r:Int):St→Prop:=QF L8 Tryz.f277 [false,false] (Bn x) (Ai r)
theorem Sq (s_1:ah)(c_2:Int)(r:Int)(h:G7 s_1 c_2=some r):bc L8 Tryz.f277 [false,false] 0 (Bn (s_1,c_2)) (Ai r):=by
 show Run _ _ (Vv (s_1,c_2) r) [.code Wo] _
 refine rI 8 [(0,str s_1),(1,.int .u8 c_2)] [] 1 ?_
 unfold G7 at h
 refine cq 8 [5,6] [str s_1,.int .u8 c_2] 49 ?_
 obtain⟨r3,hr3,h⟩:=bS h
 refine oq 65 (I r3) rfl (cP (uz hr3)) ?_
 refine cq 2 [4] [I r3] 81 ?_
 obtain rfl:=Option.some.inj h
 exact ai rfl (qp [I r3])
theorem M7 {G:Go.Ln.Ground}:aH Tryz.prog G 277 yO:=gT 2 0 (aD qg bf) (Checked.mixed Tryz.checked) Tryz.func277 (fun a r h=>Sq a.1 a.2 r h)
def Co:(ah×ah)→List V:=cA str (oA str)
def Br (r:Int):V×List V:=(I r,[])
noncomputable def yp:Ent:=aP [false,false] Co Br fun x=>Hn x.1 x.2
theorem WX {s_1:ah}{substr_2:ah}{r}(h:Hn s_1 substr_2=some r):yp.F (Co (s_1,substr_2))=some (Br r):=aA (aY bm (aB bm)) h
noncomputable def H0:Code:=ay Tryz.f267
noncomputable def HG:Env:=bC Tryz.prog [(277,yO)]
def PV (x:ah×ah)(r:Int):St→Prop:=QF HG Tryz.f267 [false,false] (Co x) (Br r)
theorem QW (s_1:ah)(substr_2:ah)(r:Int)(h:Hn s_1 substr_2=some r):bc HG Tryz.f267 [false,false] 0 (Co (s_1,substr_2)) (Br r):=by
 show Run _ _ (PV (s_1,substr_2) r) [.code H0] _
 refine rI 143 [(0,str s_1),(1,str substr_2)] [] 1 ?_
 unfold Hn at h
 refine cq 17 [5,19] [I (len substr_2),B ((len substr_2)==0)] 113 ?_
 obtain⟨u3,hu3,h⟩:=lJ h
 have j3:Run HG 0 (PV (s_1,substr_2) r) (.code (cR (cL (cL (cR (cR H0)))))::.blk 0::.code (cR (cR (cR H0)))::[]) (sT 143 [(0,str s_1),(1,str substr_2),(5,I (len substr_2)),(16,B u3)] [] 1):=by
  refine sq h (fun h=>?_) fun h=>?_
  ·refine cq 4 [4] [I (0)] 17 ?_
   obtain rfl:=Option.some.inj h
   exact ai rfl (qp [I (0)])
  ·refine cq 6 [24] [B ((len substr_2)==1)] 49 ?_
   refine sq h (fun h=>?_) fun h=>?_
   ·refine cq 4 [27,28] [str s_1,str substr_2] 81 ?_
    obtain⟨c4,hc4,h⟩:=bS h
    refine oq 97 (.int .u8 (c4.toNat:Int)) rfl (lA rfl rfl (pC rfl rfl hc4)) ?_
    obtain⟨r5,hr5,h⟩:=bS h
    refine oq 113 (I r5) rfl (cP (Vi hr5)) ?_
    refine cq 2 [4] [I r5] 129 ?_
    obtain rfl:=Option.some.inj h
    exact ai rfl (qp [I r5])
   ·refine cq 8 [31] [B (decide ((len substr_2)≥(len s_1)))] 129 ?_
    refine sq h (fun h=>?_) fun h=>?_
    ·refine cq 4 [4] [I (-1)] 145 ?_
     obtain rfl:=Option.some.inj h
     exact ai rfl (qp [I (-1)])
    ·cases h
 replace h:=hu3
 clear hu3
 refine sp 19 h rfl (fun h=>?_) fun h=>?_
 ·refine cq 6 [16] [B true] 193 ?_
  subst h
  exact rf [0,1,5,16] [] (j3 :)
 ·refine cq 6 [16] [B (substr_2==s_1)] 193 ?_
  subst h
  exact rf [0,1,5,16] [] (j3 :)
theorem NT {G:Go.Ln.Ground}:aH Tryz.prog G 267 yp:=gT 2 0 (aD M7 bf) (Checked.mixed Tryz.checked) Tryz.func267 (fun a r h=>QW a.1 a.2 r h)
def zR:(ah×ah)→List V:=cA str (oA str)
def BO (r:Int):V×List V:=(I r,[])
noncomputable def rR:Ent:=aP [false,false] zR BO fun x=>D8 x.1 x.2
theorem PQ {s_1:ah}{substr_2:ah}{r}(h:D8 s_1 substr_2=some r):rR.F (zR (s_1,substr_2))=some (BO r):=aA (aY bm (aB bm)) h
noncomputable def U1:Code:=ay Tryz.f247
noncomputable def PS:Env:=bC Tryz.prog [(267,yp)]
def WQ (x:ah×ah)(r:Int):St→Prop:=QF PS Tryz.f247 [false,false] (zR x) (BO r)
theorem Qm (s_1:ah)(substr_2:ah)(r:Int)(h:D8 s_1 substr_2=some r):bc PS Tryz.f247 [false,false] 0 (zR (s_1,substr_2)) (BO r):=by
 show Run _ _ (WQ (s_1,substr_2) r) [.code U1] _
 refine rI 8 [(0,str s_1),(1,str substr_2)] [] 1 ?_
 unfold D8 at h
 refine cq 8 [5,6] [str s_1,str substr_2] 49 ?_
 obtain⟨r3,hr3,h⟩:=bS h
 refine oq 65 (I r3) rfl (cP (WX hr3)) ?_
 refine cq 2 [4] [I r3] 81 ?_
 obtain rfl:=Option.some.inj h
 exact ai rfl (qp [I r3])
theorem E8 {G:Go.Ln.Ground}:aH Tryz.prog G 247 rR:=gT 2 0 (aD NT bf) (Checked.mixed Tryz.checked) Tryz.func247 (fun a r h=>Qm a.1 a.2 r h)
def Dq:(ah×ah)→List V:=cA str (oA str)
def B9 (r:Int):V×List V:=(I r,[])
noncomputable def xl:Ent:=aP [false,false] Dq B9 fun x=>HC x.1 x.2
theorem WJ {s_1:ah}{substr_2:ah}{r}(h:HC s_1 substr_2=some r):xl.F (Dq (s_1,substr_2))=some (B9 r):=aA (aY bm (aB bm)) h
noncomputable def Oh:Code:=ay Tryz.f246
noncomputable def HV:Env:=bC Tryz.prog [(266,ir),(247,rR)]
def Pr (x:ah×ah)(r:Int):St→Prop:=QF HV Tryz.f246 [false,false] (Dq x) (B9 r)
theorem Jh (s_1:ah)(substr_2:ah):b9 HV 0 (Pr (s_1,substr_2)) (cL (cL (cR (cR (cR (cR Oh)))))) 0 (Ke s_1 substr_2) (fun u=>(sT 34 [] [] 1)) fun x5=>(sT 34 [(0,str x5.1),(1,str substr_2),(5,I x5.2)] [] 1):=dM (JG s_1 substr_2) fun {Q K} hK self ih x5 y h hr hn=>by
 unfold pn at h
 refine cq 5 [20,21] [str x5.1,str substr_2] 33 ?_
 obtain⟨r6,hr6,h⟩:=bS h
 refine oq 49 (I r6) rfl (cP (PQ hr6)) ?_
 refine cq 8 [6,24] [I r6,B (r6==(-1))] 97 ?_
 refine sq h (fun h=>?_) fun h=>?_
 ·refine cq 5 [4] [I x5.2] 129 ?_
  exact ai rfl (hr _ (Option.some.inj h).symm _ (qp [I x5.2]))
 ·refine aq 1 ?_
  refine cq 12 [5,28,32] [I (ar (x5.2+1)),str x5.1,I (ar (r6+(len substr_2)))] 225 ?_
  obtain⟨s7,hs7,h⟩:=bS h
  refine oq 241 (str s7) rfl (gi rfl rfl rfl rfl (IC rfl rfl rfl hs7)) ?_
  refine cq 3 [0] [str s7] 257 ?_
  refine cE ?_
  exact rf [0,1,5] [] (ih _ _ h hr hn :)
theorem QK (s_1:ah)(substr_2:ah)(r:Int)(h:HC s_1 substr_2=some r):bc HV Tryz.f246 [false,false] 0 (Dq (s_1,substr_2)) (B9 r):=by
 show Run _ _ (Pr (s_1,substr_2) r) [.code Oh] _
 refine rI 34 [(0,str s_1),(1,str substr_2)] [] 1 ?_
 unfold HC at h
 refine cq 11 [9] [B ((len substr_2)==0)] 65 ?_
 refine sq h (fun h=>?_) fun h=>?_
 ·cases h
 ·refine aq 1 ?_
  refine cq 7 [15] [B ((len substr_2)==1)] 113 ?_
  refine sq h (fun h=>?_) fun h=>?_
  ·refine cq 4 [16,17] [str s_1,str substr_2] 145 ?_
   obtain⟨c3,hc3,h⟩:=bS h
   refine oq 161 (.int .u8 (c3.toNat:Int)) rfl (lA rfl rfl (pC rfl rfl hc3)) ?_
   obtain⟨r4,hr4,h⟩:=bS h
   refine oq 177 (I r4) rfl (cP (DQ hr4)) ?_
   refine cq 2 [4] [I r4] 193 ?_
   obtain rfl:=Option.some.inj h
   exact ai rfl (qp [I r4])
  ·refine aq 1 ?_
   refine cq 5 [5] [I (0)] 129 ?_
   obtain⟨y8,hy8,hy81,hy82⟩:=bJ h
   refine bD rfl ?_
   refine rf [0,1,5] [] (Jh s_1 substr_2 rfl (s_1,0) _ hy8 (fun r' e st hq=>by rw[hy81 r' e] at hq;exact hq) fun u8 hu=>?_)
   replace h:=hy82 u8 hu
   cases h
theorem Mk {G:Go.Ln.Ground}:aH Tryz.prog G 246 xl:=gT 2 0 (aD vv (aD E8 bf)) (Checked.mixed Tryz.checked) Tryz.func246 (fun a r h=>QK a.1 a.2 r h)
def Al:(ah×ah×Int×Int)→List V:=cA str (cA str (cA I (oA I)))
def Bp (r:(List ah)):V×List V:=(.usl 1 (r.map str),[])
noncomputable def yU:Ent:=aP [false,false,false,false] Al Bp fun x=>Gt x.1 x.2.1 x.2.2.1 x.2.2.2
theorem V4 {s_1:ah}{sep_2:ah}{sepSave_3:Int}{n_4:Int}{r}(h:Gt s_1 sep_2 sepSave_3 n_4=some r):yU.F (Al (s_1,sep_2,sepSave_3,n_4))=some (Bp r):=aA (aY bm (aY bm (aY bO (aB bO)))) h
noncomputable def Ij:Code:=ay Tryz.f227
noncomputable abbrev Ul:Code:=cL (cL (cL (cR (cR (cR (cR (cR (cR (cR (cR Ij))))))))))
noncomputable def Aw:Env:=bC Tryz.prog [(247,rR),(246,xl)]
def uN (x:ah×ah×Int×Int)(r:(List ah)):St→Prop:=QF Aw Tryz.f227 [false,false,false,false] (Al x) (Bp r)
theorem Jf (s_1:ah)(sep_2:ah)(sepSave_3:Int)(n_4:Int)(u5:Int):b9 Aw 0 (uN (s_1,sep_2,sepSave_3,n_4)) Ul 0 (vi s_1 sep_2 sepSave_3 n_4 u5) (fun u=>(sT 66 [(0,str u.1),(9,.hs 1 0 [] 1 0 (u.2.2.map str).length),(10,I u.2.1)] [⟨0,1,u.2.2.map str⟩] 2)) fun x7=>(sT 66 [(0,str x7.1),(1,str sep_2),(2,I sepSave_3),(3,I (ar ((if (ar ((len s_1)+1))<u5 then (ar ((len s_1)+1)) else u5) - 1))),(9,.hs 1 0 [] 1 0 (x7.2.2.map str).length),(10,I x7.2.1)] [⟨0,1,x7.2.2.map str⟩] 2):=dM (wD s_1 sep_2 sepSave_3 n_4 u5) fun {Q K} hK self ih x7 y h hr hn=>by
 unfold py at h
 refine cq 7 [36] [B (decide (x7.2.1<(ar ((if (ar ((len s_1)+1))<u5 then (ar ((len s_1)+1)) else u5) - 1))))] 50 ?_
 refine sq h (fun h=>?_) fun h=>?_
 ·refine aq 1 ?_
  refine cq 5 [37,38] [str x7.1,str sep_2] 82 ?_
  obtain⟨r8,hr8,h⟩:=bS h
  refine oq 98 (I r8) rfl (cP (PQ hr8)) ?_
  refine cq 8 [11,41] [I r8,B (decide (r8<0))] 146 ?_
  refine sq h (fun h=>?_) fun h=>?_
  ·refine aq 1 ?_
   exact rf [0,9,10] [1] (hn _ (Option.some.inj h).symm :) (hk:=hK)
  ·refine aq 1 ?_
   refine cq 8 [42,43,44,47] [.hs 1 0 [] 1 0 (x7.2.2.map str).length,I x7.2.1,str x7.1,I (ar (r8+sepSave_3))] 242 ?_
   obtain⟨s9,hs9,h⟩:=bS h
   refine oq 258 (str s9) rfl (gi rfl rfl rfl rfl (IC rfl rfl rfl hs9)) ?_
   obtain⟨e10,he10,h⟩:=bS h
   refine oq 274 (.hp 1 0 [] 1 (0+Int.toNat x7.2.1) 0) rfl (an rfl rfl rfl (gV (f:=str) (xs:=x7.2.2) rfl rfl rfl he10)) ?_
   refine o0 290 rfl rfl (gf rfl rfl (eP (path:=[]) (pl:=true) (e':=str s9) (es2':=(ey x7.2.2 x7.2.1 s9).map str) rfl (eH rfl) rfl rfl rfl bd (fP (f:=str) (xs:=x7.2.2) he10) rfl rfl rfl (lf (f:=str) (xs:=x7.2.2) (y:=s9)) dU 0 rfl)) ?_
   try rw[←je (f:=str) (xs:=x7.2.2) (i:=x7.2.1) (z:=s9)]
   refine cq 8 [50,54] [str x7.1,I (ar (r8+(len sep_2)))] 370 ?_
   obtain⟨s11,hs11,h⟩:=bS h
   refine oq 386 (str s11) rfl (gi rfl rfl rfl rfl (IC rfl rfl rfl hs11)) ?_
   refine cq 8 [0,10] [str s11,I (ar (x7.2.1+1))] 450 ?_
   refine cE ?_
   exact rf [0,1,2,3,9,10] [1] (ih _ _ h hr hn :)
 ·refine aq 1 ?_
  exact rf [0,9,10] [1] (hn _ (Option.some.inj h).symm :) (hk:=hK)
theorem Rs (s_1:ah)(sep_2:ah)(sepSave_3:Int)(n_4:Int)(r:(List ah))(h:Gt s_1 sep_2 sepSave_3 n_4=some r):bc Aw Tryz.f227 [false,false,false,false] 0 (Al (s_1,sep_2,sepSave_3,n_4)) (Bp r):=by
 show Run _ _ (uN (s_1,sep_2,sepSave_3,n_4) r) [.code Ij] _
 refine rI 66 [(0,str s_1),(1,str sep_2),(2,I sepSave_3),(3,I n_4)] [] 1 ?_
 unfold Gt at h
 refine cq 10 [13] [B (n_4==0)] 49 ?_
 refine sq h (fun h=>?_) fun h=>?_
 ·refine cq 4 [8] [.isl true []] 65 ?_
  refine TW 8 0 1 81 (.hs 65 0 [] 1 0 0) rfl rfl rfl rfl rfl ?_
  obtain rfl:=Option.some.inj h
  exact ai rfl ⟨_,fin (vs:=[.hs 65 0 [] 1 0 0]) rfl (fF (fk rfl (cN (k:=0) (es:=[]) rfl rfl)) et) rfl (eZ (eZ (eZ (eZ fM)))),fC⟩
 ·refine aq 1 ?_
  refine cq 6 [15] [B (sep_2==([]:ah))] 81 ?_
  refine sq h (fun h=>?_) fun h=>?_
  ·cases h
  ·refine aq 1 ?_
   refine cq 6 [20] [B (decide (n_4<0))] 113 ?_
   obtain⟨y5,hy5,hy51,hy52⟩:=bJ h
   have j5:∀u5,y5=.inr u5→Run Aw 0 (uN (s_1,sep_2,sepSave_3,n_4) r) (.code (cR (cR (cR (cR Ij))))::[]) (sT 66 [(0,str s_1),(1,str sep_2),(2,I sepSave_3),(3,I u5)] [] 1):=by
    intro u5 hu
    replace h:=hy52 u5 hu
    refine cq 12 [3,30] [I (if (ar ((len s_1)+1))<u5 then (ar ((len s_1)+1)) else u5),I (if (ar ((len s_1)+1))<u5 then (ar ((len s_1)+1)) else u5)] 113 ?_
    obtain⟨m6,hm6,h⟩:=bS h
    refine oq 129 (.hs 113 0 [] 1 0 (m6.map str).length) rfl (iG rfl rfl (AD (f:=str) rfl rfl rfl (by decide) hm6 rfl)) ?_
    refine cq 14 [3,9,10] [I (ar ((if (ar ((len s_1)+1))<u5 then (ar ((len s_1)+1)) else u5) - 1)),.hs 113 0 [] 1 0 (m6.map str).length,I (0)] 209 ?_
    obtain⟨y12,hy12,hy121,hy122⟩:=bJ h
    refine bD rfl ?_
    refine rf [0,1,2,3,9,10] [113] (Jf s_1 sep_2 sepSave_3 n_4 u5 rfl (s_1,0,m6) _ hy12 (fun r' e st hq=>by rw[hy121 r' e] at hq;exact hq) fun u12 hu=>?_)
    replace h:=hy122 u12 hu
    refine cq 5 [58,59,60] [.hs 1 0 [] 1 0 (u12.2.2.map str).length,I u12.2.1,str u12.1] 50 ?_
    obtain⟨e13,he13,h⟩:=bS h
    refine oq 66 (.hp 1 0 [] 1 (0+Int.toNat u12.2.1) 0) rfl (an rfl rfl rfl (gV (f:=str) (xs:=u12.2.2) rfl rfl rfl he13)) ?_
    refine o0 82 rfl rfl (gf rfl rfl (eP (path:=[]) (pl:=true) (e':=str u12.1) (es2':=(ey u12.2.2 u12.2.1 u12.1).map str) rfl (eH rfl) rfl rfl rfl bd (fP (f:=str) (xs:=u12.2.2) he13) rfl rfl rfl (lf (f:=str) (xs:=u12.2.2) (y:=u12.1)) dU 0 rfl)) ?_
    try rw[←je (f:=str) (xs:=u12.2.2) (i:=u12.2.1) (z:=u12.1)]
    refine cq 6 [62,64] [.hs 1 0 [] 1 0 ((ey u12.2.2 u12.2.1 u12.1).map str).length,I (ar (u12.2.1+1))] 130 ?_
    obtain⟨s14,hs14,h⟩:=bS h
    refine oq 146 (.hs 1 0 [] 1 (0+Int.toNat (0)) (Int.toNat (ar (u12.2.1+1)) - Int.toNat (0))) rfl (gi rfl rfl rfl rfl (qI (f:=str) (xs:=(ey u12.2.2 u12.2.1 u12.1)) rfl rfl rfl rfl rfl hs14)) ?_
    refine cq 2 [8] [.hs 1 0 [] 1 (0+Int.toNat (0)) (Int.toNat (ar (u12.2.1+1)) - Int.toNat (0))] 162 ?_
    obtain⟨p15,hp15,h⟩:=bS h
    obtain rfl:=Option.some.inj h
    exact ai rfl ⟨_,fin (vs:=[.hs 1 0 [] 1 (0+Int.toNat (0)) (Int.toNat (ar (u12.2.1+1)) - Int.toNat (0))]) rfl (fF (fk rfl (PZ (path:=[]) (f:=str) (xs:=(ey u12.2.2 u12.2.1 u12.1)) rfl rfl bd hp15 rfl xd)) et) rfl (eZ (eZ (eZ (eZ fM)))),fC⟩
   have r5:∀r',y5=.inl r'→∀st,uN (s_1,sep_2,sepSave_3,n_4) r' st→(uN (s_1,sep_2,sepSave_3,n_4) r) st:=fun r' e st hq=>by rw[hy51 r' e] at hq;exact hq
   replace h:=hy5
   refine sq h (fun h=>?_) fun h=>?_
   ·refine cq 3 [21,22] [str s_1,str sep_2] 145 ?_
    obtain⟨r16,hr16,h⟩:=bS h
    refine oq 161 (I r16) rfl (cP (WJ hr16)) ?_
    refine cq 3 [3] [I (ar (r16+1))] 193 ?_
    exact rf [0,1,2,3] [] (j5 _ (Option.some.inj h).symm :)
   ·refine aq 1 ?_
    exact rf [0,1,2,3] [] (j5 _ (Option.some.inj h).symm :)
theorem PC {G:Go.Ln.Ground}:aH Tryz.prog G 227 yU:=gT 4 0 (aD E8 (aD Mk bf)) (Checked.mixed Tryz.checked) Tryz.func227 (fun a r h=>Rs a.1 a.2.1 a.2.2.1 a.2.2.2 r h)
def BA:(ah×ah)→List V:=cA str (oA str)
def zP (r:(List ah)):V×List V:=(.usl 1 (r.map str),[])
noncomputable def yJ:Ent:=aP [false,false] BA zP fun x=>ym x.1 x.2
theorem Wt {s_1:ah}{sep_2:ah}{r}(h:ym s_1 sep_2=some r):yJ.F (BA (s_1,sep_2))=some (zP r):=aA (aY bm (aB bm)) h
noncomputable def VG:Code:=ay Tryz.f201
noncomputable def Pt:Env:=bC Tryz.prog [(227,yU)]
def WG (x:ah×ah)(r:(List ah)):St→Prop:=QF Pt Tryz.f201 [false,false] (BA x) (zP r)
theorem QM (s_1:ah)(sep_2:ah)(r:(List ah))(h:ym s_1 sep_2=some r):bc Pt Tryz.f201 [false,false] 0 (BA (s_1,sep_2)) (zP r):=by
 show Run _ _ (WG (s_1,sep_2) r) [.code VG] _
 refine rI 8 [(0,str s_1),(1,str sep_2)] [] 1 ?_
 unfold ym at h
 refine cq 8 [5,6] [str s_1,str sep_2] 49 ?_
 obtain⟨r3,hr3,h⟩:=bS h
 refine oq 65 (.hs 49 0 [] 1 0 (r3.map str).length) rfl (cP (V4 hr3)) ?_
 refine cq 2 [4] [.hs 49 0 [] 1 0 (r3.map str).length] 81 ?_
 obtain rfl:=Option.some.inj h
 exact ai rfl ⟨_,fin (vs:=[.hs 49 0 [] 1 0 (r3.map str).length]) rfl (fF (fk rfl (cN rfl rfl)) et) rfl (eZ (eZ fM)),fC⟩
theorem PT {G:Go.Ln.Ground}:aH Tryz.prog G 201 yJ:=gT 2 0 (aD PC bf) (Checked.mixed Tryz.checked) Tryz.func201 (fun a r h=>QM a.1 a.2 r h)
def BU:((List ah)×ah)→List V:=cA (ee str) (oA str)
def Cg (r:Int):V×List V:=(I r,[])
noncomputable def xZ:Ent:=aP [false,false] BU Cg fun x=>yo x.1 x.2
theorem U5 {s_1:List ah}{v_2:ah}{r}(h:yo s_1 v_2=some r):xZ.F (BU (s_1,v_2))=some (Cg r):=aA (aY (bw bm) (aB bm)) h
noncomputable def Ou:Code:=ay Tryz.f189
noncomputable def Ic:Env:=bC Tryz.prog []
def PF (x:(List ah)×ah)(r:Int):St→Prop:=QF Ic Tryz.f189 [false,false] (BU x) (Cg r)
theorem Jb (s_1:List ah)(v_2:ah):b9 Ic 0 (PF (s_1,v_2)) (cL (cL (cR (cL (cR Ou))))) 0 (nW s_1 v_2) (fun u=>(sT 19 [] [] 1)) fun x3=>(sT 19 [(0,.isl false (s_1.map str)),(1,str v_2),(7,I (len s_1)),(8,I x3)] [] 1):=dM (vN s_1 v_2) fun {Q K} hK self ih x3 y h hr hn=>by
 unfold jF at h
 refine cq 5 [9] [B (decide (x3<(len s_1)))] 17 ?_
 refine sq h (fun h=>?_) fun h=>?_
 ·refine aq 1 ?_
  refine cq 12 [5,11,12,13] [I x3,str v_2,.isl false (s_1.map str),I x3] 97 ?_
  obtain⟨e4,he4,h⟩:=bS h
  refine oq 113 (.iptr (str e4) 0) rfl (an rfl rfl rfl (aM rfl rfl rfl rfl he4)) ?_
  refine cq 3 [16] [B (v_2==e4)] 145 ?_
  refine sq h (fun h=>?_) fun h=>?_
  ·refine cq 5 [4] [I x3] 177 ?_
   exact ai rfl (hr _ (Option.some.inj h).symm _ (qp [I x3]))
  ·refine aq 1 ?_
   refine cq 5 [8] [I (ar (x3+1))] 177 ?_
   refine cE ?_
   exact rf [0,1,7,8] [] (ih _ _ h hr hn :)
 ·refine aq 1 ?_
  exact rf [] [] (hn _ (Option.some.inj h).symm :) (hk:=hK)
theorem Rg (s_1:List ah)(v_2:ah)(r:Int)(h:yo s_1 v_2=some r):bc Ic Tryz.f189 [false,false] 0 (BU (s_1,v_2)) (Cg r):=by
 show Run _ _ (PF (s_1,v_2) r) [.code Ou] _
 refine rI 19 [(0,.isl false (s_1.map str)),(1,str v_2)] [] 1 ?_
 unfold yo at h
 refine cq 8 [6] [.isl false (s_1.map str)] 33 ?_
 refine oq 49 (I (len s_1)) rfl (aW rfl rfl rfl (bb rfl)) ?_
 refine cq 3 [8] [I (0)] 65 ?_
 obtain⟨y5,hy5,hy51,hy52⟩:=bJ h
 refine bD rfl ?_
 refine rf [0,1,7,8] [] (Jb s_1 v_2 rfl 0 _ hy5 (fun r' e st hq=>by rw[hy51 r' e] at hq;exact hq) fun u5 hu=>?_)
 replace h:=hy52 u5 hu
 refine cq 4 [4] [I (-1)] 17 ?_
 obtain rfl:=Option.some.inj h
 exact ai rfl (qp [I (-1)])
theorem Pi {G:Go.Ln.Ground}:aH Tryz.prog G 189 xZ:=gT 2 0 bf (Checked.mixed Tryz.checked) Tryz.func189 (fun a r h=>Rg a.1 a.2 r h)
def zH:((List ah)×ah)→List V:=cA (ee str) (oA str)
def AI (r:Bool):V×List V:=(B r,[])
noncomputable def ow:Ent:=aP [false,false] zH AI fun x=>oO x.1 x.2
theorem Ht {s_1:List ah}{v_2:ah}{r}(h:oO s_1 v_2=some r):ow.F (zH (s_1,v_2))=some (AI r):=aA (aY (bw bm) (aB bm)) h
noncomputable def VV:Code:=ay Tryz.f130
noncomputable def MH:Env:=bC Tryz.prog [(189,xZ)]
def WK (x:(List ah)×ah)(r:Bool):St→Prop:=QF MH Tryz.f130 [false,false] (zH x) (AI r)
theorem QY (s_1:List ah)(v_2:ah)(r:Bool)(h:oO s_1 v_2=some r):bc MH Tryz.f130 [false,false] 0 (zH (s_1,v_2)) (AI r):=by
 show Run _ _ (WK (s_1,v_2) r) [.code VV] _
 refine rI 9 [(0,.isl false (s_1.map str)),(1,str v_2)] [] 1 ?_
 unfold oO at h
 refine cq 8 [5,6] [.isl false (s_1.map str),str v_2] 49 ?_
 obtain⟨r3,hr3,h⟩:=bS h
 refine oq 65 (I r3) rfl (cP (U5 hr3)) ?_
 refine cq 3 [4] [B (decide (r3≥0))] 97 ?_
 obtain rfl:=Option.some.inj h
 exact ai rfl (qp [B (decide (r3≥0))])
theorem tc {G:Go.Ln.Ground}:aH Tryz.prog G 130 ow:=gT 2 0 (aD Pi bf) (Checked.mixed Tryz.checked) Tryz.func130 (fun a r h=>QY a.1 a.2 r h)
def Fy:ah→List V:=oA str
def Gl (r:Bool):V×List V:=(B r,[])
noncomputable def oa:Ent:=aP [false] Fy Gl fun x=>sV x
theorem zt {s_1:ah}{r}(h:sV s_1=some r):oa.F (Fy s_1)=some (Gl r):=aA (aB bm) h
noncomputable def vg:Code:=ay Tryz.f159
noncomputable abbrev oP:Code:=cL (cL (cR (cL (cR (cR vg)))))
noncomputable abbrev Aj:Code:=cR (cR (cR oP))
noncomputable abbrev BW:Code:=cR (cR (cR (cL (cL (cR (cR oP))))))
noncomputable def nC:Env:=bC Tryz.prog [(86,iI),(201,yJ),(130,ow)]
def pc (x:ah)(r:Bool):St→Prop:=QF nC Tryz.f159 [false] (Fy x) (Gl r)
theorem LM (s_1:ah):b9 nC 0 (pc s_1) oP 0 (uQ s_1) (fun u=>(sT 46 [(0,str s_1)] [] 1)) fun x4=>(sT 46 [(0,str s_1),(20,I (len s_1)),(21,I x4)] [] 1):=dM (CC s_1) fun {Q K} hK self ih x4 y h hr hn=>by
 unfold mA at h
 refine cq 5 [22] [B (decide (x4<(len s_1)))] 17 ?_
 refine sq h (fun h=>?_) fun h=>?_
 ·refine aq 1 ?_
  refine cq 11 [24,25] [str s_1,I x4] 81 ?_
  obtain⟨c5,hc5,h⟩:=bS h
  refine oq 97 (.int .u8 (c5.toNat:Int)) rfl (lA rfl rfl (pC rfl rfl hc5)) ?_
  refine cq 7 [4,29] [.int .u8 (c5.toNat:Int),B (decide ((c5.toNat:Int)<97))] 161 ?_
  obtain⟨u6,hu6,h⟩:=lJ h
  have j6:Run nC 0 Q (.code BW::.blk 1::.code Aj::.lp oP::.blk 0::K) (sT 46 [(0,str s_1),(20,I (len s_1)),(21,I x4),(40,B u6)] [] 1):=by
   refine sq h (fun h=>?_) fun h=>?_
   ·refine cq 4 [2] [B false] 17 ?_
    exact ai rfl (hr _ (Option.some.inj h).symm _ (qp [B false]))
   ·refine aq 1 ?_
    refine cq 5 [21] [I (ar (x4+1))] 33 ?_
    refine cE ?_
    exact rf [0,20,21] [] (ih _ _ h hr hn :)
  replace h:=hu6
  clear hu6
  refine sp 29 h rfl (fun h=>?_) fun h=>?_
  ·refine cq 7 [33,36] [B true,B (decide ((c5.toNat:Int)<48))] 273 ?_
   obtain⟨u7,hu7,h⟩:=lJ h
   have j7:Run nC 0 Q (.code BW::.blk 1::.code Aj::.lp oP::.blk 0::K) (sT 46 [(0,str s_1),(20,I (len s_1)),(21,I x4),(40,B u7)] [] 1):=by
    subst h
    exact rf [0,20,21,40] [] (j6 :)
   replace h:=hu7
   clear hu7
   refine sp 36 h rfl (fun h=>?_) fun h=>?_
   ·refine cq 5 [40] [B true] 337 ?_
    subst h
    exact rf [0,20,21,40] [] (j7 :)
   ·refine cq 5 [40] [B (decide ((c5.toNat:Int)>57))] 337 ?_
    subst h
    exact rf [0,20,21,40] [] (j7 :)
  ·refine cq 4 [33] [B (decide ((c5.toNat:Int)>122))] 225 ?_
   obtain⟨u8,hu8,h⟩:=lJ h
   have j8:Run nC 0 Q (.code BW::.blk 1::.code Aj::.lp oP::.blk 0::K) (sT 46 [(0,str s_1),(20,I (len s_1)),(21,I x4),(40,B u8)] [] 1):=by
    subst h
    exact rf [0,20,21,40] [] (j6 :)
   replace h:=hu8
   clear hu8
   refine sp 33 h rfl (fun h=>?_) fun h=>?_
   ·refine cq 3 [36] [B (decide ((c5.toNat:Int)<48))] 273 ?_
    obtain⟨u9,hu9,h⟩:=lJ h
    have j9:Run nC 0 Q (.code BW::.blk 1::.code Aj::.lp oP::.blk 0::K) (sT 46 [(0,str s_1),(20,I (len s_1)),(21,I x4),(40,B u9)] [] 1):=by
     subst h
     exact rf [0,20,21,40] [] (j8 :)
    replace h:=hu9
    clear hu9
    refine sp 36 h rfl (fun h=>?_) fun h=>?_
    ·refine cq 5 [40] [B true] 337 ?_
     subst h
     exact rf [0,20,21,40] [] (j9 :)
    ·refine cq 5 [40] [B (decide ((c5.toNat:Int)>57))] 337 ?_
     subst h
     exact rf [0,20,21,40] [] (j9 :)
   ·refine cq 8 [40] [B false] 337 ?_
    subst h
    exact rf [0,20,21,40] [] (j8 :)
 ·refine aq 1 ?_
  exact rf [0] [] (hn _ (Option.some.inj h).symm :) (hk:=hK)
theorem UN (s_1:ah)(r:Bool)(h:sV s_1=some r):bc nC Tryz.f159 [false] 0 (Fy s_1) (Gl r):=by
 show Run _ _ (pc s_1 r) [.code vg] _
 refine rI 46 [(0,str s_1)] [] 1 ?_
 unfold sV at h
 refine cq 9 [6] [I (len s_1)] 49 ?_
 obtain⟨r2,hr2,h⟩:=bS h
 refine oq 65 (B r2) rfl (cP (iV hr2)) ?_
 refine cq 2 [9] [B (!r2)] 97 ?_
 obtain⟨y3,hy3,hy31,hy32⟩:=bJ h
 have j3:∀u3,y3=.inr u3→Run nC 0 (pc s_1 r) (.code (cR (cL (cR vg)))::.code (cR (cR vg))::[]) (sT 46 [(0,str s_1),(18,B u3)] [] 1):=by
  intro u3 hu
  replace h:=hy32 u3 hu
  refine sq h (fun h=>?_) fun h=>?_
  ·refine cq 4 [2] [B false] 17 ?_
   obtain rfl:=Option.some.inj h
   exact ai rfl (qp [B false])
  ·refine aq 1 ?_
   refine cq 8 [20,21] [I (len s_1),I (0)] 49 ?_
   obtain⟨y10,hy10,hy101,hy102⟩:=bJ h
   refine bD rfl ?_
   refine rf [0,20,21] [] (LM s_1 rfl 0 _ hy10 (fun r' e st hq=>by rw[hy101 r' e] at hq;exact hq) fun u10 hu=>?_)
   replace h:=hy102 u10 hu
   refine aq 2 ?_
   obtain⟨r11,hr11,h⟩:=bS h
   refine oq 17 (.hs 1 0 [] 1 0 (r11.map str).length) rfl (cP (Wt hr11)) ?_
   refine cq 1 [43] [str s_1] 33 ?_
   obtain⟨r12,hr12,h⟩:=bS h
   refine oq 49 (B r12) rfl (co rfl rfl (cM rfl rfl rfl (ca (X4 rfl rfl (d8 (f:=str) (g:=str) (xs:=r11) rfl rfl (bV em))) (ca (cT rfl) dD)) (Ht hr12) (.inl rfl) ec rfl rfl rfl)) ?_
   refine cq 3 [2] [B (!r12)] 81 ?_
   obtain rfl:=Option.some.inj h
   exact ai rfl (qp [B (!r12)])
 have r3:∀r',y3=.inl r'→∀st,pc s_1 r' st→(pc s_1 r) st:=fun r' e st hq=>by rw[hy31 r' e] at hq;exact hq
 replace h:=hy3
 refine sp 9 h rfl (fun h=>?_) fun h=>?_
 ·refine cq 10 [18] [B true] 241 ?_
  exact rf [0,18] [] (j3 _ (Option.some.inj h).symm :)
 ·refine cq 1 [10] [str s_1] 113 ?_
  obtain⟨c13,hc13,h⟩:=bS h
  refine oy 129 (.int .u8 (c13.toNat:Int)) rfl (lA rfl rfl (pC rfl rfl hc13)) ?_
  refine cq 3 [14] [B (decide ((c13.toNat:Int)<97))] 177 ?_
  obtain⟨y14,hy14,hy141,hy142⟩:=bL h
  have j14:∀u14,y14=.inr u14→Run nC 0 (pc s_1 r) (.code (cR (cL (cR vg)))::.code (cR (cR vg))::[]) (sT 46 [(0,str s_1),(18,B u14)] [] 1):=by
   intro u14 hu
   replace h:=hy142 u14 hu
   exact rf [0,18] [] (j3 _ (Option.some.inj h).symm :)
  have r14:∀r',y14=.inl r'→∀st,pc s_1 r' st→(pc s_1 r) st:=fun r' e st hq=>r3 r' (hy141 r' e) st hq
  replace h:=hy14
  refine sp 14 h rfl (fun h=>?_) fun h=>?_
  ·refine cq 5 [18] [B true] 241 ?_
   exact rf [0,18] [] (j14 _ (Option.some.inj h).symm :)
  ·refine cq 1 [15] [str s_1] 193 ?_
   obtain⟨c15,hc15,h⟩:=bS h
   refine oy 209 (.int .u8 (c15.toNat:Int)) rfl (lA rfl rfl (pC rfl rfl hc15)) ?_
   refine cq 3 [18] [B (decide ((c15.toNat:Int)>122))] 241 ?_
   exact rf [0,18] [] (j14 _ (Option.some.inj h).symm :)
theorem rD {G:Go.Ln.Ground}:aH Tryz.prog G 159 oa:=gT 1 0 (aD jD (aD PT (aD tc bf))) (Checked.mixed Tryz.checked) Tryz.func159 (fun a r h=>UN a r h)
def FL:(List ah)→List V:=oA (ee str)
def Gd (r:Bool):V×List V:=(B r,[])
noncomputable def DE:Ent:=aP [false] FL Gd fun x=>GQ x
theorem X2 {list_1:List ah}{r}(h:GQ list_1=some r):DE.F (FL list_1)=some (Gd r):=aA (aB (bw bm)) h
noncomputable def zG:Code:=ay Tryz.f123
noncomputable def FJ:Env:=bC Tryz.prog [(159,oa),(130,ow),(86,iI)]
def Lv (x:(List ah))(r:Bool):St→Prop:=QF FJ Tryz.f123 [false] (FL x) (Gd r)
theorem LV (list_1:List ah):b9 FJ 0 (Lv list_1) (cL (cL (cR (cL (cR zG))))) 0 (tA list_1) (fun u=>(sT 26 [(0,.isl false (list_1.map str))] [] 1)) fun x2=>(sT 26 [(0,.isl false (list_1.map str)),(5,.isl false (list_1.map str)),(6,I (len list_1)),(7,I x2)] [] 1):=dM (zV list_1) fun {Q K} hK self ih x2 y h hr hn=>by
 unfold kD at h
 refine cq 5 [8] [B (decide (x2<(len list_1)))] 17 ?_
 refine sq h (fun h=>?_) fun h=>?_
 ·refine aq 1 ?_
  refine cq 5 [9] [I x2] 33 ?_
  obtain⟨e3,he3,h⟩:=bS h
  refine oq 49 (.iptr (str e3) 0) rfl (an rfl rfl rfl (aM rfl rfl rfl rfl he3)) ?_
  refine cq 7 [3,4,12] [I x2,str e3,str e3] 113 ?_
  obtain⟨r4,hr4,h⟩:=bS h
  refine oq 129 (B r4) rfl (cP (zt hr4)) ?_
  refine cq 2 [15] [B (!r4)] 161 ?_
  obtain⟨y5,hy5,hy51,hy52⟩:=bL h
  have j5:∀u5,y5=.inr u5→Run FJ 0 Q (.code (cR (cR (cL (cL (cR (cR (cL (cL (cR (cL (cR zG)))))))))))::.blk 1::.code (cR (cR (cR (cL (cL (cR (cL (cR zG))))))))::.lp (cL (cL (cR (cL (cR zG)))))::.blk 0::K) (sT 26 [(0,.isl false (list_1.map str)),(5,.isl false (list_1.map str)),(6,I (len list_1)),(7,I x2),(21,B u5)] [] 1):=by
   intro u5 hu
   replace h:=hy52 u5 hu
   refine sq h (fun h=>?_) fun h=>?_
   ·refine cq 4 [2] [B false] 17 ?_
    exact ai rfl (hr _ (Option.some.inj h).symm _ (qp [B false]))
   ·refine aq 1 ?_
    refine cq 5 [7] [I (ar (x2+1))] 33 ?_
    refine cE ?_
    exact rf [0,5,6,7] [] (ih _ _ h hr hn :)
  have r5:∀r',y5=.inl r'→∀st,Lv list_1 r' st→Q st:=fun r' e st hq=>hr r' (hy51 r' e) st hq
  replace h:=hy5
  refine sp 15 h rfl (fun h=>?_) fun h=>?_
  ·refine cq 7 [21] [B true] 257 ?_
   exact rf [0,5,6,7,21] [] (j5 _ (Option.some.inj h).symm :)
  ·refine cq 2 [16,17] [.isl false (list_1.map str),I x2] 193 ?_
   obtain⟨s6,hs6,h⟩:=bS h
   refine oy 209 (.isl false (s6.map str)) rfl (gi rfl rfl rfl rfl (GW rfl rfl (fun y=>(js y).1) rfl rfl hs6)) ?_
   refine cq 1 [19] [str e3] 225 ?_
   obtain⟨r7,hr7,h⟩:=bS h
   refine oy 241 (B r7) rfl (cP (Ht hr7)) ?_
   refine cq 2 [21] [B r7] 257 ?_
   exact rf [0,5,6,7,21] [] (j5 _ (Option.some.inj h).symm :)
 ·refine aq 1 ?_
  exact rf [0] [] (hn _ (Option.some.inj h).symm :) (hk:=hK)
theorem UB (list_1:List ah)(r:Bool)(h:GQ list_1=some r):bc FJ Tryz.f123 [false] 0 (FL list_1) (Gd r):=by
 show Run _ _ (Lv list_1 r) [.code zG] _
 refine rI 26 [(0,.isl false (list_1.map str))] [] 1 ?_
 unfold GQ at h
 refine cq 8 [5] [.isl false (list_1.map str)] 33 ?_
 refine oq 49 (I (len list_1)) rfl (aW rfl rfl rfl (bb rfl)) ?_
 refine cq 3 [7] [I (0)] 65 ?_
 obtain⟨y8,hy8,hy81,hy82⟩:=bJ h
 refine bD rfl ?_
 refine rf [0,5,6,7] [] (LV list_1 rfl 0 _ hy8 (fun r' e st hq=>by rw[hy81 r' e] at hq;exact hq) fun u8 hu=>?_)
 replace h:=hy82 u8 hu
 refine cq 3 [23] [.isl false (list_1.map str)] 17 ?_
 refine oq 33 (I (len list_1)) rfl (aW rfl rfl rfl (bb rfl)) ?_
 obtain⟨r9,hr9,h⟩:=bS h
 refine oq 49 (B r9) rfl (cP (iV hr9)) ?_
 refine cq 2 [2] [B r9] 65 ?_
 obtain rfl:=Option.some.inj h
 exact ai rfl (qp [B r9])
theorem RL {G:Go.Ln.Ground}:aH Tryz.prog G 123 DE:=gT 1 0 (aD rD (aD tc (aD jD bf))) (Checked.mixed Tryz.checked) Tryz.func123 (fun a r h=>UB a r h)
def FH:(Clause×ah)→List V:=cA aa (oA (fun x:ah=>.iptr (str x) 0))
def F2 (r:Bool):V×List V:=(B r,[])
noncomputable def DM:Ent:=aP [false,false] FH F2 fun x=>NO x.1 x.2
theorem XR {x_1:Clause}{a_2:ah}{r}(h:NO x_1 a_2=some r):DM.F (FH (x_1,a_2))=some (F2 r):=aA (aY cp (aB (ov bm))) h
noncomputable def XP:Code:=ay Tryz.f217
noncomputable def SX:Env:=bC Tryz.prog []
def XN (x:Clause×ah)(r:Bool):St→Prop:=QF SX Tryz.f217 [false,false] (FH x) (F2 r)
theorem Ua (x_1:Clause)(a_2:ah)(r:Bool)(h:NO x_1 a_2=some r):bc SX Tryz.f217 [false,false] 0 (FH (x_1,a_2)) (F2 r):=by
 show Run _ _ (XN (x_1,a_2) r) [.code XP] _
 refine rI 8 [(0,.agg [str x_1.Id,I x_1.Kind,I x_1.Party,str x_1.Action,I x_1.Other,I x_1.Amount,I x_1.When.Op,str x_1.When.Name,I x_1.When.Day,.isl false (x_1.When.Parts.map ac),I x_1.Within,str x_1.Repair]),(1,.iptr (str a_2) 0)] [] 1 ?_
 unfold NO at h
 refine cq 13 [3] [B (x_1.Id==a_2)] 113 ?_
 obtain rfl:=Option.some.inj h
 exact ai rfl (qp [B (x_1.Id==a_2)])
theorem SM {G:Go.Ln.Ground}:aH Tryz.prog G 217 DM:=gT 2 0 bf (Checked.mixed Tryz.checked) Tryz.func217 (fun a r h=>Ua a.1 a.2 r h)
def B4:((List Clause)×ah)→List V:=cA (ee aa) (oA (fun x:ah=>(.fn 217 [.iptr (str x) 0]:V)))
def BP (r:Int):V×List V:=(I r,[])
noncomputable def yt:Ent:=aP [false,false] B4 BP fun x=>Ec x.1 x.2
theorem Vk {s_1:List Clause}{f_2:ah}{r}(h:Ec s_1 f_2=some r):yt.F (B4 (s_1,f_2))=some (BP r):=aA (aY (bw cp) (aB (qQ bm))) h
noncomputable def PX:Code:=ay Tryz.f160
noncomputable def Iu:Env:=bC Tryz.prog [(217,DM)]
def NE (x:(List Clause)×ah)(r:Int):St→Prop:=QF Iu Tryz.f160 [false,false] (B4 x) (BP r)
theorem IU (s_1:List Clause)(f_2:ah):b9 Iu 0 (NE (s_1,f_2)) (cL (cL (cR (cL (cR PX))))) 0 (qU s_1 f_2) (fun u=>(sT 19 [] [] 1)) fun x3=>(sT 19 [(0,.isl false (s_1.map aa)),(1,.fn 217 [.iptr (str f_2) 0]),(7,I (len s_1)),(8,I x3)] [] 1):=dM (wL s_1 f_2) fun {Q K} hK self ih x3 y h hr hn=>by
 unfold kO at h
 refine cq 5 [9] [B (decide (x3<(len s_1)))] 17 ?_
 refine sq h (fun h=>?_) fun h=>?_
 ·refine aq 1 ?_
  refine cq 12 [5,11,12,13] [I x3,.fn 217 [.iptr (str f_2) 0],.isl false (s_1.map aa),I x3] 97 ?_
  obtain⟨e4,he4,h⟩:=bS h
  refine oq 113 (.iptr (.agg [str e4.Id,I e4.Kind,I e4.Party,str e4.Action,I e4.Other,I e4.Amount,I e4.When.Op,str e4.When.Name,I e4.When.Day,.isl false (e4.When.Parts.map ac),I e4.Within,str e4.Repair]) 0) rfl (an rfl rfl rfl (aM rfl rfl rfl rfl he4)) ?_
  refine cq 1 [15] [.agg [str e4.Id,I e4.Kind,I e4.Party,str e4.Action,I e4.Other,I e4.Amount,I e4.When.Op,str e4.When.Name,I e4.When.Day,.isl false (e4.When.Parts.map ac),I e4.Within,str e4.Repair]] 129 ?_
  obtain⟨r5,hr5,h⟩:=bS h
  refine oq 145 (B r5) rfl (cP (XR hr5)) ?_
  refine aq 1 ?_
  refine sq h (fun h=>?_) fun h=>?_
  ·refine cq 5 [4] [I x3] 177 ?_
   exact ai rfl (hr _ (Option.some.inj h).symm _ (qp [I x3]))
  ·refine aq 1 ?_
   refine cq 5 [8] [I (ar (x3+1))] 177 ?_
   refine cE ?_
   exact rf [0,1,7,8] [] (ih _ _ h hr hn :)
 ·refine aq 1 ?_
  exact rf [] [] (hn _ (Option.some.inj h).symm :) (hk:=hK)
theorem R3 (s_1:List Clause)(f_2:ah)(r:Int)(h:Ec s_1 f_2=some r):bc Iu Tryz.f160 [false,false] 0 (B4 (s_1,f_2)) (BP r):=by
 show Run _ _ (NE (s_1,f_2) r) [.code PX] _
 refine rI 19 [(0,.isl false (s_1.map aa)),(1,.fn 217 [.iptr (str f_2) 0])] [] 1 ?_
 unfold Ec at h
 refine cq 8 [6] [.isl false (s_1.map aa)] 33 ?_
 refine oq 49 (I (len s_1)) rfl (aW rfl rfl rfl (bb rfl)) ?_
 refine cq 3 [8] [I (0)] 65 ?_
 obtain⟨y6,hy6,hy61,hy62⟩:=bJ h
 refine bD rfl ?_
 refine rf [0,1,7,8] [] (IU s_1 f_2 rfl 0 _ hy6 (fun r' e st hq=>by rw[hy61 r' e] at hq;exact hq) fun u6 hu=>?_)
 replace h:=hy62 u6 hu
 refine cq 4 [4] [I (-1)] 17 ?_
 obtain rfl:=Option.some.inj h
 exact ai rfl (qp [I (-1)])
theorem Oc {G:Go.Ln.Ground}:aH Tryz.prog G 160 yt:=gT 2 0 (aD SM bf) (Checked.mixed Tryz.checked) Tryz.func160 (fun a r h=>R3 a.1 a.2 r h)
def Gg:(Contract×ah)→List V:=cA aG (oA str)
def Fw (r:Int):V×List V:=(I r,[])
noncomputable def DU:Ent:=aP [false,false] Gg Fw fun x=>Av x.1 x.2
theorem ST {c_1:Contract}{id_2:ah}{r}(h:Av c_1 id_2=some r):DU.F (Gg (c_1,id_2))=some (Fw r):=aA (aY aQ (aB bm)) h
noncomputable def XU:Code:=ay Tryz.f184
noncomputable def S0:Env:=bC Tryz.prog [(160,yt)]
def Xk (x:Contract×ah)(r:Int):St→Prop:=QF S0 Tryz.f184 [false,false] (Gg x) (Fw r)
theorem TF (c_1:Contract)(id_2:ah)(r:Int)(h:Av c_1 id_2=some r):bc S0 Tryz.f184 [false,false] 0 (Gg (c_1,id_2)) (Fw r):=by
 show Run _ _ (Xk (c_1,id_2) r) [.code XU] _
 refine rI 9 [(0,.agg [.isl false (c_1.Parties.map str),.isl false (c_1.Clauses.map aa)]),(1,str id_2)] [] 1 ?_
 unfold Av at h
 refine ck 11 [6,7] [] [17] [] [.isl false (c_1.Clauses.map aa),.fn 217 [.hp 17 0 [] 1 0 0]] [some ⟨0,1,[str id_2]⟩] 97 (by kernel_rfl) ?_
 obtain⟨r3,hr3,h⟩:=bS h
 refine oq 113 (I r3) rfl (co rfl rfl (cM rfl rfl rfl (ca (cT rfl) (ca (HX (dh (uB (path:=[]) rfl rfl bd rfl rfl) kf)) dD)) (Vk hr3) (.inl rfl) ec rfl rfl rfl)) ?_
 refine cq 2 [4] [I r3] 129 ?_
 obtain rfl:=Option.some.inj h
 exact ai rfl (qp [I r3])
theorem RP {G:Go.Ln.Ground}:aH Tryz.prog G 184 DU:=gT 2 0 (aD Oc bf) (Checked.mixed Tryz.checked) Tryz.func184 (fun a r h=>TF a.1 a.2 r h)
def FZ:Int→List V:=oA I
def Gb (r:Bool):V×List V:=(B r,[])
noncomputable def rj:Ent:=aP [false] FZ Gb fun x=>me x
theorem sr {day_1:Int}{r}(h:me day_1=some r):rj.F (FZ day_1)=some (Gb r):=aA (aB bO) h
noncomputable def Xl:Code:=ay Tryz.f126
noncomputable def S9:Env:=bC Tryz.prog [(86,iI)]
def XE (x:Int)(r:Bool):St→Prop:=QF S9 Tryz.f126 [false] (FZ x) (Gb r)
theorem Um (day_1:Int)(r:Bool)(h:me day_1=some r):bc S9 Tryz.f126 [false] 0 (FZ day_1) (Gb r):=by
 show Run _ _ (XE day_1 r) [.code Xl] _
 refine rI 5 [(0,I day_1)] [] 1 ?_
 unfold me at h
 refine cq 7 [3] [I day_1] 33 ?_
 obtain⟨r2,hr2,h⟩:=bS h
 refine oq 49 (B r2) rfl (cP (iV hr2)) ?_
 refine cq 2 [2] [B r2] 65 ?_
 obtain rfl:=Option.some.inj h
 exact ai rfl (qp [B r2])
theorem yP {G:Go.Ln.Ground}:aH Tryz.prog G 126 rj:=gT 1 0 (aD jD bf) (Checked.mixed Tryz.checked) Tryz.func126 (fun a r h=>Um a r h)
def zQ:(Condition×Int)→List V:=cA aU (oA I)
def zp (r:Int):V×List V:=(I r,[])
noncomputable def xp (slf_Ffk:(Condition×Int)→Option Int):Ent:=aP [false,false] zQ zp slf_Ffk
theorem MI (slf_Ffk:(Condition×Int)→Option Int){x}{r}(h:slf_Ffk x=some r):(xp slf_Ffk).F (zQ x)=some (zp r):=aA (aY cf (aB bO)) h
noncomputable def Ed:Ent:=xp (aJ kw)
theorem XA {c_1:Condition}{so_2:Int}{r}(h:Oq c_1 so_2=some r):Ed.F (zQ (c_1,so_2))=some (zp r):=MI (aJ kw) h
noncomputable def sa:Code:=ay Tryz.f218
noncomputable abbrev mT:Code:=cR (cR (cR (cR (cR sa))))
noncomputable abbrev oC:Code:=cR (cL (cR (cR (cR (cR sa)))))
noncomputable def ko (slf_Ffk:(Condition×Int)→Option Int):Env:=bC Tryz.prog [(218,(xp slf_Ffk)),(159,oa),(126,rj),(86,iI)]
def dS (slf_Ffk:(Condition×Int)→Option Int)(x:Condition×Int)(r:Int):St→Prop:=QF (ko slf_Ffk) Tryz.f218 [false,false] (zQ x) (zp r)
theorem LP (slf_Ffk:(Condition×Int)→Option Int)(c_1:Condition)(so_2:Int):b9 (ko slf_Ffk) 0 (dS slf_Ffk (c_1,so_2)) (cL (cL (cR (cL mT)))) 0 (kb slf_Ffk c_1 so_2) (fun u=>(sT 78 [(1,I u)] [] 1)) fun x5=>(sT 78 [(1,I x5.1),(65,.isl false (c_1.Parts.map ac)),(66,I (len c_1.Parts)),(67,I x5.2)] [] 1):=dM (BG slf_Ffk c_1 so_2) fun {Q K} hK self ih x5 y h hr hn=>by
 unfold jA at h
 refine cq 5 [68] [B (decide (x5.2<(len c_1.Parts)))] 17 ?_
 refine sq h (fun h=>?_) fun h=>?_
 ·refine aq 1 ?_
  refine aq 4 ?_
  obtain⟨e6,he6,h⟩:=bS h
  refine oq 33 (.iptr (.agg [I e6.Op,str e6.Name,I e6.Day,.isl false (e6.Parts.map ac)]) 0) rfl (an rfl rfl rfl (aM rfl rfl (ce e6) rfl he6)) ?_
  refine ck 2 [7,70] [] [49] [] [.hp 49 0 [] 4 0 0,.agg [I e6.Op,str e6.Name,I e6.Day,.isl false (e6.Parts.map ac)]] [some ⟨0,4,[.agg [I (0),str ([]),I (0),.isl true []]]⟩] 65 (by kernel_rfl) ?_
  refine d9 49 [.agg [I (0),str ([]),I (0),.usl 4 (([]).map ap)]] rfl rfl (au (fg (au (.refl _) (au (.refl _) (au (.refl _) (au (.nil _) dz))))) dz) ?_
  refine ck 6 [71,72] [] [49] [] [.agg [I e6.Op,str e6.Name,I e6.Day,.isl false (e6.Parts.map ac)],I x5.1] [some ⟨2,4,[.agg [I e6.Op,str e6.Name,I e6.Day,.isl false (e6.Parts.map ac)]]⟩] 113 (by kernel_rfl) ?_
  obtain⟨r7,hr7,h⟩:=bS h
  refine oq 129 (I r7) rfl (co rfl rfl (cM rfl rfl rfl (ca (cT rfl) (ca (cT rfl) dD)) (MI slf_Ffk hr7) (.inr rfl) ec rfl rfl rfl)) ?_
  refine cq 7 [1,75] [I r7,B (decide (r7<0))] 177 ?_
  refine sq h (fun h=>?_) fun h=>?_
  ·refine cq 4 [4] [I (-1)] 193 ?_
   exact ai rfl (hr _ (Option.some.inj h).symm _ (qp [I (-1)]))
  ·refine aq 1 ?_
   refine cq 5 [67] [I (ar (x5.2+1))] 209 ?_
   refine cE ?_
   exact rf [1,65,66,67] [] (ih _ _ h hr hn :)
 ·refine aq 1 ?_
  exact rf [1] [] (hn _ (Option.some.inj h).symm :) (hk:=hK)
theorem T0 (slf_Ffk:(Condition×Int)→Option Int)(c_1:Condition)(so_2:Int)(r:Int)(h:vt slf_Ffk c_1 so_2=some r):bc (ko slf_Ffk) Tryz.f218 [false,false] 0 (zQ (c_1,so_2)) (zp r):=by
 show Run _ _ (dS slf_Ffk (c_1,so_2) r) [.code sa] _
 refine rI 78 [(0,.agg [I c_1.Op,str c_1.Name,I c_1.Day,.isl false (c_1.Parts.map ac)]),(1,I so_2)] [] 1 ?_
 unfold vt at h
 refine ck 13 [1,2] [] [1] [] [I (ar (so_2+1)),.hp 1 0 [] 4 0 0] [some ⟨0,4,[.agg [I c_1.Op,str c_1.Name,I c_1.Day,.isl false (c_1.Parts.map ac)]]⟩] 81 (by kernel_rfl) ?_
 refine oq 97 (.hs 81 0 [] 1 0 7) rfl (f8 rfl (sG (f:=I) (xs:=[]) (z:=I (0)) (es:=[I (-1),I (0),I (0),I (0),I (1),I (2),I (2)]) (ws:=[I (-1),I (0),I (0),I (0),I (1),I (2),I (2)]) rfl rfl rfl (by decide) rfl (eo rfl) rfl)) ?_
 refine cq 4 [5] [.hs 81 0 [] 1 0 7] 113 ?_
 refine d7 [0,1,3,7,15,31,63,127,255,511,1023,2047,511,511,8703,29183,61951,131071,262143] rfl (by decide +kernel) ?_
 refine dk 3 [13,12,11] [B (decide ((ar (so_2+1))>15)),B (decide ((ar (so_2+1))>15)),I (ar (so_2+1))] ?_
 obtain⟨y3,hy3,hy31,hy32⟩:=bJ h
 have j3:∀u3,y3=.inr u3→Run (ko slf_Ffk) 0 (dS slf_Ffk (c_1,so_2) r) (.code (cR (cL (cR (cR (cR sa)))))::.code (cR (cR (cR (cR sa))))::[]) (sT 78 [(1,I (ar (so_2+1))),(2,.hp 1 0 [] 4 0 0),(29,B u3)] [⟨0,4,[.agg [I c_1.Op,str c_1.Name,I c_1.Day,.isl false (c_1.Parts.map ac)]]⟩] 2):=by
  intro u3 hu
  replace h:=hy32 u3 hu
  refine sq h (fun h=>?_) fun h=>?_
  ·refine cq 4 [4] [I (-1)] 18 ?_
   obtain rfl:=Option.some.inj h
   exact ai rfl (qp [I (-1)])
  ·refine aq 1 ?_
   refine cq 11 [37] [B (!((c_1.Op==2)==(!(c_1.Name==([]:ah)))))] 130 ?_
   obtain⟨y4,hy4,hy41,hy42⟩:=bJ h
   have j4:∀u4,y4=.inr u4→Run (ko slf_Ffk) 0 (dS slf_Ffk (c_1,so_2) r) (.code oC::.code mT::[]) (sT 78 [(1,I (ar (so_2+1))),(2,.hp 1 0 [] 4 0 0),(63,B u4)] [⟨0,4,[.agg [I c_1.Op,str c_1.Name,I c_1.Day,.isl false (c_1.Parts.map ac)]]⟩] 2):=by
    intro u4 hu
    replace h:=hy42 u4 hu
    refine sq h (fun h=>?_) fun h=>?_
    ·refine cq 4 [4] [I (-1)] 18 ?_
     obtain rfl:=Option.some.inj h
     exact ai rfl (qp [I (-1)])
    ·refine aq 1 ?_
     refine cq 5 [65] [.isl false (c_1.Parts.map ac)] 34 ?_
     refine oq 50 (I (len c_1.Parts)) rfl (aW rfl rfl rfl (bb rfl)) ?_
     refine cq 3 [67] [I (0)] 66 ?_
     obtain⟨y8,hy8,hy81,hy82⟩:=bJ h
     refine bD rfl ?_
     refine rf [1,65,66,67] [] (LP slf_Ffk c_1 so_2 rfl ((ar (so_2+1)),0) _ hy8 (fun r' e st hq=>by rw[hy81 r' e] at hq;exact hq) fun u8 hu=>?_)
     replace h:=hy82 u8 hu
     refine cq 5 [4] [I u8] 33 ?_
     obtain rfl:=Option.some.inj h
     exact ai rfl (qp [I u8])
   have r4:∀r',y4=.inl r'→∀st,dS slf_Ffk (c_1,so_2) r' st→(dS slf_Ffk (c_1,so_2) r) st:=fun r' e st hq=>by rw[hy41 r' e] at hq;exact hq
   replace h:=hy4
   refine sp 37 h rfl (fun h=>?_) fun h=>?_
   ·refine cq 27 [63] [B true] 546 ?_
    exact rf [1,2,63] [1] (j4 _ (Option.some.inj h).symm :)
   ·refine cq 4 [41] [B (c_1.Op==2)] 194 ?_
    obtain⟨y9,hy9,hy91,hy92⟩:=bL h
    have j9:∀u9,y9=.inr u9→Run (ko slf_Ffk) 0 (dS slf_Ffk (c_1,so_2) r) (.code oC::.code mT::[]) (sT 78 [(1,I (ar (so_2+1))),(2,.hp 1 0 [] 4 0 0),(63,B u9)] [⟨0,4,[.agg [I c_1.Op,str c_1.Name,I c_1.Day,.isl false (c_1.Parts.map ac)]]⟩] 2):=by
     intro u9 hu
     replace h:=hy92 u9 hu
     exact rf [1,2,63] [1] (j4 _ (Option.some.inj h).symm :)
    have r9:∀r',y9=.inl r'→∀st,dS slf_Ffk (c_1,so_2) r' st→(dS slf_Ffk (c_1,so_2) r) st:=fun r' e st hq=>r4 r' (hy91 r' e) st hq
    replace h:=hy9
    refine sp 41 h rfl (fun h=>?_) fun h=>?_
    ·refine cq 2 [43] [str c_1.Name] 226 ?_
     obtain⟨r10,hr10,h⟩:=bS h
     refine oy 242 (B r10) rfl (cP (zt hr10)) ?_
     refine cq 4 [48] [B (!r10)] 306 ?_
     obtain⟨y11,hy11,hy111,hy112⟩:=bL h
     have j11:∀u11,y11=.inr u11→Run (ko slf_Ffk) 0 (dS slf_Ffk (c_1,so_2) r) (.code oC::.code mT::[]) (sT 78 [(1,I (ar (so_2+1))),(2,.hp 1 0 [] 4 0 0),(63,B u11)] [⟨0,4,[.agg [I c_1.Op,str c_1.Name,I c_1.Day,.isl false (c_1.Parts.map ac)]]⟩] 2):=by
      intro u11 hu
      replace h:=hy112 u11 hu
      exact rf [1,2,63] [1] (j9 _ (Option.some.inj h).symm :)
     have r11:∀r',y11=.inl r'→∀st,dS slf_Ffk (c_1,so_2) r' st→(dS slf_Ffk (c_1,so_2) r) st:=fun r' e st hq=>r9 r' (hy111 r' e) st hq
     replace h:=hy11
     refine sp 48 h rfl (fun h=>?_) fun h=>?_
     ·refine cq 16 [63] [B true] 546 ?_
      exact rf [1,2,63] [1] (j11 _ (Option.some.inj h).symm :)
     ·refine cq 4 [52] [B (c_1.Op != 3)] 370 ?_
      obtain⟨y12,hy12,hy121,hy122⟩:=bL h
      have j12:∀u12,y12=.inr u12→Run (ko slf_Ffk) 0 (dS slf_Ffk (c_1,so_2) r) (.code oC::.code mT::[]) (sT 78 [(1,I (ar (so_2+1))),(2,.hp 1 0 [] 4 0 0),(63,B u12)] [⟨0,4,[.agg [I c_1.Op,str c_1.Name,I c_1.Day,.isl false (c_1.Parts.map ac)]]⟩] 2):=by
       intro u12 hu
       replace h:=hy122 u12 hu
       exact rf [1,2,63] [1] (j11 _ (Option.some.inj h).symm :)
      have r12:∀r',y12=.inl r'→∀st,dS slf_Ffk (c_1,so_2) r' st→(dS slf_Ffk (c_1,so_2) r) st:=fun r' e st hq=>r11 r' (hy121 r' e) st hq
      replace h:=hy12
      refine sp 52 h rfl (fun h=>?_) fun h=>?_
      ·refine cq 6 [58] [B (c_1.Day != 0)] 466 ?_
       obtain⟨y13,hy13,hy131,hy132⟩:=bL h
       have j13:∀u13,y13=.inr u13→Run (ko slf_Ffk) 0 (dS slf_Ffk (c_1,so_2) r) (.code oC::.code mT::[]) (sT 78 [(1,I (ar (so_2+1))),(2,.hp 1 0 [] 4 0 0),(63,B u13)] [⟨0,4,[.agg [I c_1.Op,str c_1.Name,I c_1.Day,.isl false (c_1.Parts.map ac)]]⟩] 2):=by
        intro u13 hu
        replace h:=hy132 u13 hu
        exact rf [1,2,63] [1] (j12 _ (Option.some.inj h).symm :)
       have r13:∀r',y13=.inl r'→∀st,dS slf_Ffk (c_1,so_2) r' st→(dS slf_Ffk (c_1,so_2) r) st:=fun r' e st hq=>r12 r' (hy131 r' e) st hq
       replace h:=hy13
       refine sp 58 h rfl (fun h=>?_) fun h=>?_
       ·refine cq 6 [63] [B true] 546 ?_
        exact rf [1,2,63] [1] (j13 _ (Option.some.inj h).symm :)
       ·refine cq 2 [60] [I c_1.Day] 498 ?_
        obtain⟨r14,hr14,h⟩:=bS h
        refine oy 514 (B r14) rfl (cP (sr hr14)) ?_
        refine cq 3 [63] [B (!r14)] 546 ?_
        exact rf [1,2,63] [1] (j13 _ (Option.some.inj h).symm :)
      ·refine cq 8 [58,60] [B false,I c_1.Day] 498 ?_
       obtain⟨r15,hr15,h⟩:=bS h
       refine oy 514 (B r15) rfl (cP (sr hr15)) ?_
       refine cq 3 [63] [B (!r15)] 546 ?_
       exact rf [1,2,63] [1] (j12 _ (Option.some.inj h).symm :)
    ·refine cq 11 [48,52] [B false,B (c_1.Op != 3)] 370 ?_
     obtain⟨y16,hy16,hy161,hy162⟩:=bL h
     have j16:∀u16,y16=.inr u16→Run (ko slf_Ffk) 0 (dS slf_Ffk (c_1,so_2) r) (.code oC::.code mT::[]) (sT 78 [(1,I (ar (so_2+1))),(2,.hp 1 0 [] 4 0 0),(63,B u16)] [⟨0,4,[.agg [I c_1.Op,str c_1.Name,I c_1.Day,.isl false (c_1.Parts.map ac)]]⟩] 2):=by
      intro u16 hu
      replace h:=hy162 u16 hu
      exact rf [1,2,63] [1] (j9 _ (Option.some.inj h).symm :)
     have r16:∀r',y16=.inl r'→∀st,dS slf_Ffk (c_1,so_2) r' st→(dS slf_Ffk (c_1,so_2) r) st:=fun r' e st hq=>r9 r' (hy161 r' e) st hq
     replace h:=hy16
     refine sp 52 h rfl (fun h=>?_) fun h=>?_
     ·refine cq 6 [58] [B (c_1.Day != 0)] 466 ?_
      obtain⟨y17,hy17,hy171,hy172⟩:=bL h
      have j17:∀u17,y17=.inr u17→Run (ko slf_Ffk) 0 (dS slf_Ffk (c_1,so_2) r) (.code oC::.code mT::[]) (sT 78 [(1,I (ar (so_2+1))),(2,.hp 1 0 [] 4 0 0),(63,B u17)] [⟨0,4,[.agg [I c_1.Op,str c_1.Name,I c_1.Day,.isl false (c_1.Parts.map ac)]]⟩] 2):=by
       intro u17 hu
       replace h:=hy172 u17 hu
       exact rf [1,2,63] [1] (j16 _ (Option.some.inj h).symm :)
      have r17:∀r',y17=.inl r'→∀st,dS slf_Ffk (c_1,so_2) r' st→(dS slf_Ffk (c_1,so_2) r) st:=fun r' e st hq=>r16 r' (hy171 r' e) st hq
      replace h:=hy17
      refine sp 58 h rfl (fun h=>?_) fun h=>?_
      ·refine cq 6 [63] [B true] 546 ?_
       exact rf [1,2,63] [1] (j17 _ (Option.some.inj h).symm :)
      ·refine cq 2 [60] [I c_1.Day] 498 ?_
       obtain⟨r18,hr18,h⟩:=bS h
       refine oy 514 (B r18) rfl (cP (sr hr18)) ?_
       refine cq 3 [63] [B (!r18)] 546 ?_
       exact rf [1,2,63] [1] (j17 _ (Option.some.inj h).symm :)
     ·refine cq 8 [58,60] [B false,I c_1.Day] 498 ?_
      obtain⟨r19,hr19,h⟩:=bS h
      refine oy 514 (B r19) rfl (cP (sr hr19)) ?_
      refine cq 3 [63] [B (!r19)] 546 ?_
      exact rf [1,2,63] [1] (j16 _ (Option.some.inj h).symm :)
 have r3:∀r',y3=.inl r'→∀st,dS slf_Ffk (c_1,so_2) r' st→(dS slf_Ffk (c_1,so_2) r) st:=fun r' e st hq=>by rw[hy31 r' e] at hq;exact hq
 replace h:=hy3
 refine sp 13 h rfl (fun h=>?_) fun h=>?_
 ·refine dk 16 [29,28,27,26,25,24,23,22,21,20,19,18,17,16,15,14] [B true,.und,.und,.und,.und,.und,.und,.und,.und,.und,B true,B true,.und,.und,.und,.und] ?_
  refine de 417 rfl rfl ?_
  exact rf [1,2,29] [1] (j3 _ (Option.some.inj h).symm :)
 ·refine dy [1] [] (.hp 1 0 [] 4 0 0) rfl (al rfl rfl rfl) ?_
  refine dy [1] [] (I c_1.Op) rfl (aO rfl rfl) ?_
  obtain⟨r20,hr20,h⟩:=bS h
  refine dy [] [] (B r20) rfl (cP (iV hr20)) ?_ (dj rfl rfl rfl rfl (ca (cT rfl) (ca (cT rfl) (ca (cT rfl) dD))) (iV hr20) (.inr rfl) rfl)
  refine dk 3 [19,18,17] [B (!r20),B (!r20),B (!r20)] ?_
  obtain⟨y21,hy21,hy211,hy212⟩:=bL h
  have j21:∀u21,y21=.inr u21→Run (ko slf_Ffk) 0 (dS slf_Ffk (c_1,so_2) r) (.code (cR (cL (cR (cR (cR sa)))))::.code (cR (cR (cR (cR sa))))::[]) (sT 78 [(1,I (ar (so_2+1))),(2,.hp 1 0 [] 4 0 0),(29,B u21)] [⟨0,4,[.agg [I c_1.Op,str c_1.Name,I c_1.Day,.isl false (c_1.Parts.map ac)]]⟩] 2):=by
   intro u21 hu
   replace h:=hy212 u21 hu
   exact rf [1,2,29] [1] (j3 _ (Option.some.inj h).symm :)
  have r21:∀r',y21=.inl r'→∀st,dS slf_Ffk (c_1,so_2) r' st→(dS slf_Ffk (c_1,so_2) r) st:=fun r' e st hq=>r3 r' (hy211 r' e) st hq
  replace h:=hy21
  refine sp 19 h rfl (fun h=>?_) fun h=>?_
  ·refine dk 10 [29,28,27,26,25,24,23,22,21,20] [B true,.und,.und,.und,.und,.und,.und,.und,.und,.und] ?_
   refine de 417 rfl rfl ?_
   exact rf [1,2,29] [1] (j21 _ (Option.some.inj h).symm :)
  ·refine dy [1] [] (.hp 1 0 [] 4 0 3) rfl (al rfl rfl rfl) ?_
   refine dy [1] [] (.isl false (c_1.Parts.map ac)) rfl (aO rfl rfl) ?_
   refine dy [] [] (I (len c_1.Parts)) rfl (aW rfl rfl rfl (bb rfl)) ?_
   refine dk 1 [23] [.hs 81 0 [] 1 0 7] ?_
   refine dy [1] [] (.hp 1 0 [] 4 0 0) rfl (al rfl rfl rfl) ?_
   refine dy [1] [] (I c_1.Op) rfl (aO rfl rfl) ?_
   obtain⟨e22,he22,h⟩:=bS h
   refine dy [81] [] (.hp 81 0 [] 1 (0+Int.toNat c_1.Op) 0) rfl (an rfl rfl rfl (gV (f:=I) (xs:=[(-1),0,0,0,1,2,2]) rfl rfl rfl he22)) ?_
   refine dy [81] [] (I e22) rfl (aO rfl (pi (path:=[]) rfl rfl rfl bd (fP (f:=I) (xs:=[(-1),0,0,0,1,2,2]) he22) rfl rfl rfl)) ?_
   refine dk 2 [29,28] [B ((len c_1.Parts) != e22),B ((len c_1.Parts) != e22)] ?_
   refine de 417 rfl rfl ?_
   exact rf [1,2,29] [1] (j21 _ (Option.some.inj h).symm :)
theorem RZ {G:Go.Ln.Ground}:aH Tryz.prog G 218 Ed:=jy fun slf_Ffk g_Ffk=>gT 2 0 (aD g_Ffk (aD rD (aD yP (aD jD bf)))) (Checked.mixed Tryz.checked) Tryz.func218 (fun a r h=>T0 slf_Ffk a.1 a.2 r h)
def Fz:Condition→List V:=oA aU
def Ge (r:Bool):V×List V:=(B r,[])
noncomputable def DC:Ent:=aP [false] Fz Ge fun x=>G4 x
theorem Xr {c_1:Condition}{r}(h:G4 c_1=some r):DC.F (Fz c_1)=some (Ge r):=aA (aB cf) h
noncomputable def X1:Code:=ay Tryz.f185
noncomputable def Te:Env:=bC Tryz.prog [(218,Ed)]
def Xi (x:Condition)(r:Bool):St→Prop:=QF Te Tryz.f185 [false] (Fz x) (Ge r)
theorem UR (c_1:Condition)(r:Bool)(h:G4 c_1=some r):bc Te Tryz.f185 [false] 0 (Fz c_1) (Ge r):=by
 show Run _ _ (Xi c_1 r) [.code X1] _
 refine rI 6 [(0,.agg [I c_1.Op,str c_1.Name,I c_1.Day,.isl false (c_1.Parts.map ac)])] [] 1 ?_
 unfold G4 at h
 refine cq 8 [3] [.agg [I c_1.Op,str c_1.Name,I c_1.Day,.isl false (c_1.Parts.map ac)]] 49 ?_
 obtain⟨r2,hr2,h⟩:=bS h
 refine oq 65 (I r2) rfl (cP (XA hr2)) ?_
 refine cq 3 [2] [B (decide (r2>0))] 97 ?_
 obtain rfl:=Option.some.inj h
 exact ai rfl (qp [B (decide (r2>0))])
theorem RD {G:Go.Ln.Ground}:aH Tryz.prog G 185 DC:=gT 1 0 (aD RZ bf) (Checked.mixed Tryz.checked) Tryz.func185 (fun a r h=>UR a r h)
def FP:(Contract×Int)→List V:=cA aG (oA I)
def F4 (r:Bool):V×List V:=(B r,[])
noncomputable def DX:Ent:=aP [false,false] FP F4 fun x=>Ia x.1 x.2
theorem Xh {c_1:Contract}{i_2:Int}{r}(h:Ia c_1 i_2=some r):DX.F (FP (c_1,i_2))=some (F4 r):=aA (aY aQ (aB bO)) h
noncomputable def jQ:Code:=ay Tryz.f124
noncomputable abbrev GU:Code:=cR (cL (cR (cR (cR (cR jQ)))))
noncomputable abbrev tT:Code:=cR (cR (cR (cR (cR (cR jQ)))))
noncomputable abbrev Cz:Code:=cR (cL (cR (cR (cR (cR (cR jQ))))))
noncomputable abbrev Ha:Code:=cR (cR (cR tT))
noncomputable def iq:Env:=bC Tryz.prog [(159,oa),(86,iI),(184,DU),(185,DC)]
def dm (x:Contract×Int)(r:Bool):St→Prop:=QF iq Tryz.f124 [false,false] (FP x) (F4 r)
end Go.Ln
