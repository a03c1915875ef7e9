/-
  The walks.
-/
import Derived.Test.YtcfddlacocdpoaaGreatDoorFnExactActionStatusFun
import Derived.Test.YtcfddlacocdpoaaGreatDoorChecked
set_option maxHeartbeats 4000000
set_option linter.unusedVariables false
set_option linter.unusedSimpArgs false
set_option maxRecDepth 100000
namespace Go.Ln
open Go Go.Proofs
noncomputable abbrev ca:=Checked.mixed Tryz.checked
abbrev bZ:=Go.Ln.Ground
abbrev bW (G:bZ):=gw Tryz.prog G
noncomputable abbrev b9:=X5 Tryz.prog
def FF:((List ac)×Int)→List V:=cA (fP str) (oA I)
def FG (r:Int):V×List V:=(I r,[])
noncomputable def vS :=bf [false,false] FF FG fun x=>xD x.1 x.2
theorem UR {a_1:List ac}{aw:Int}{r}(h:xD a_1 aw=some r):vS.F (FF (a_1,aw))=some (FG r):=aL (aH (bC bx) (aM bd)) h
noncomputable def UT :=aG Tryz.f41
noncomputable def Nn :=b9 []
def US (x:(List ac)×Int)(r:Int):St→Prop:=QF Nn Tryz.f41 [false,false] (FF x) (FG r)
theorem PO (a_1:List ac)(aw:Int):ct Nn 0 (US (a_1,aw)) (cL (cL (cR (cL (cR (cR (cR UT))))))) 0 (ur a_1 aw) (fun u=>(sT 28 [(1,I u)] [] 1)) fun x3=>(sT 28 [(0,.isl false (a_1.map str)),(1,I x3.1),(5,I x3.2)] [] 1):=ez (Ar a_1 aw) fun {Q K} hK self ih x3 y h hr hn=>by
 unfold nV at h
 refine cq 5 [12,13] [I x3.2,.isl false (a_1.map str)] 33 ?_
 refine oq 49 (I (len a_1)) rfl (bA rfl rfl rfl (bR rfl)) ?_
 refine cq 2 [15] [B (decide (x3.2<(len a_1)))] 65 ?_
 refine sq h ?_ ?_<;>intro h
 ·refine aq 1 ?_
  refine cq 7 [18,19,20] [I x3.1,.isl false (a_1.map str),I x3.2] 113 ?_
  obtain⟨e4,he4,h⟩:=bS h
  refine oq 129 (.iptr (str e4) 0) rfl (al rfl rfl rfl (aW rfl rfl rfl rfl he4)) ?_
  refine cq 10 [1,26] [I (aj (x3.1 - (len e4))),B (decide ((aj (x3.1 - (len e4)))<0))] 225 ?_
  refine sq h ?_ ?_<;>intro h
  ·refine cq 4 [4] [I (-1)] 241 ?_
   exact ci rfl (hr _ (ak h) _ (qp [I (-1)]))
  ·refine aq 1 ?_
   refine cq 6 [5] [I (aj (x3.2+1))] 273 ?_
   refine dC ?_
   exact rf [0,1,5] [] (ih _ _ h hr hn :)
 ·refine aq 1 ?_
  exact rf [1] [] (hn _ (ak h) :) (hk:=hK)
theorem Zi (a_1:List ac)(aw:Int)(r:Int)(h:xD a_1 aw=some r):bq Nn Tryz.f41 [false,false] 0 (FF (a_1,aw)) (FG r):=by
 show Run _ _ (US (a_1,aw) r) [.code UT] _
 refine rI 28 [(0,.isl false (a_1.map str)),(1,I aw)] [] 1 ?_
 unfold xD at h
 refine cq 8 [6,7] [I aw,.isl false (a_1.map str)] 49 ?_
 refine oq 65 (I (len a_1)) rfl (bA rfl rfl rfl (bR rfl)) ?_
 refine cq 9 [1,11] [I (aj (aw - (len a_1))),B (decide ((aj (aw - (len a_1)))<0))] 129 ?_
 refine sq h ?_ ?_<;>intro h
 ·refine cq 4 [4] [I (-1)] 145 ?_
  obtain rfl:=sI h
  exact rP [I (-1)]
 ·refine aq 1 ?_
  refine cq 6 [5] [I (0)] 145 ?_
  obtain⟨y5,hy5,hy51,hy52⟩:=bJ h
  refine bV rfl ?_
  refine rf [0,1,5] [] (PO a_1 aw rfl ((aj (aw - (len a_1))),0) _ hy5 (fun r' e st hq=>by rw[hy51 r' e] at hq;exact hq) fun u5 hu=>?_)
  replace h:=hy52 u5 hu
  refine cq 5 [4] [I u5] 33 ?_
  obtain rfl:=sI h
  exact rP [I u5]
theorem K1 {G:bZ}:bW G 41 vS:=gT 2 0 bv ca Tryz.func41 (fun a r h=>Zi a.1 a.2 r h)
def xA:(Condition×Int)→List V:=cA bD (oA I)
def xB (r:Int):V×List V:=(I r,[])
noncomputable def ta (bH:(Condition×Int)→Option Int):Ent:=bf [false,false] xA xB bH
theorem QW (bH:(Condition×Int)→Option Int){x}{r}(h:bH x=some r):(ta bH).F (xA x)=some (xB r):=aL (aH dt (aM bd)) h
def Fv:((List Condition)×Int)→List V:=cA (fP aB) (oA I)
def Fw (r:Int):V×List V:=(I r,[])
noncomputable def Cz (bH:(Condition×Int)→Option Int):Ent:=bf [false,false] Fv Fw fun x=>xC bH x.1 x.2
theorem ae2 (bH:(Condition×Int)→Option Int){a_1:List Condition}{aw:Int}{r}(h:xC bH a_1 aw=some r):(Cz bH).F (Fv (a_1,aw))=some (Fw r):=aL (aH (bC f6) (aM bd)) h
noncomputable def UG :=aG Tryz.f168
noncomputable def Nm (bH:(Condition×Int)→Option Int):Env:=b9 [(134,(ta bH))]
def UF (bH:(Condition×Int)→Option Int)(x:(List Condition)×Int)(r:Int):St→Prop:=QF (Nm bH) Tryz.f168 [false,false] (Fv x) (Fw r)
theorem PN (bH:(Condition×Int)→Option Int)(a_1:List Condition)(aw:Int):ct (Nm bH) 0 (UF bH (a_1,aw)) (cL (cL (cR (cL (cR (cR (cR UG))))))) 0 (rS bH a_1 aw) (fun u=>(sT 27 [(1,I u)] [] 1)) fun x3=>(sT 27 [(0,.isl false (a_1.map aB)),(1,I x3.1),(5,I x3.2)] [] 1):=ez (Aq bH a_1 aw) fun {Q K} hK self ih x3 y h hr hn=>by
 unfold lS at h
 refine cq 5 [12,13] [I x3.2,.isl false (a_1.map aB)] 33 ?_
 refine oq 49 (I (len a_1)) rfl (bA rfl rfl rfl (bR rfl)) ?_
 refine cq 2 [15] [B (decide (x3.2<(len a_1)))] 65 ?_
 refine sq h ?_ ?_<;>intro h
 ·refine aq 1 ?_
  refine cq 6 [18,19] [.isl false (a_1.map aB),I x3.2] 97 ?_
  obtain⟨e4,he4,h⟩:=bS h
  refine oq 113 (.iptr (bD e4) 0) rfl (al rfl rfl rfl (aW rfl rfl (bU e4) rfl he4)) ?_
  refine cq 2 [21,22] [bD e4,I x3.1] 145 ?_
  obtain⟨r5,hr5,h⟩:=bS h
  refine oq 161 (I r5) rfl (bM rfl rfl (b7 rfl rfl rfl (aR (bo rfl) (aR (bo rfl) cS)) (QW bH hr5) (.inr rfl) dH rfl rfl rfl)) ?_
  refine cq 7 [1,25] [I r5,B (decide (r5<0))] 209 ?_
  refine sq h ?_ ?_<;>intro h
  ·refine cq 4 [4] [I (-1)] 225 ?_
   exact ci rfl (hr _ (ak h) _ (qp [I (-1)]))
  ·refine aq 1 ?_
   refine cq 6 [5] [I (aj (x3.2+1))] 257 ?_
   refine dC ?_
   exact rf [0,1,5] [] (ih _ _ h hr hn :)
 ·refine aq 1 ?_
  exact rf [1] [] (hn _ (ak h) :) (hk:=hK)
theorem Zd (bH:(Condition×Int)→Option Int)(a_1:List Condition)(aw:Int)(r:Int)(h:xC bH a_1 aw=some r):bq (Nm bH) Tryz.f168 [false,false] 0 (Fv (a_1,aw)) (Fw r):=by
 show Run _ _ (UF bH (a_1,aw) r) [.code UG] _
 refine rI 27 [(0,.isl false (a_1.map aB)),(1,I aw)] [] 1 ?_
 unfold xC at h
 refine cq 8 [6,7] [I aw,.isl false (a_1.map aB)] 49 ?_
 refine oq 65 (I (len a_1)) rfl (bA rfl rfl rfl (bR rfl)) ?_
 refine cq 9 [1,11] [I (aj (aw - (len a_1))),B (decide ((aj (aw - (len a_1)))<0))] 129 ?_
 refine sq h ?_ ?_<;>intro h
 ·refine cq 4 [4] [I (-1)] 145 ?_
  obtain rfl:=sI h
  exact rP [I (-1)]
 ·refine aq 1 ?_
  refine cq 6 [5] [I (0)] 145 ?_
  obtain⟨y6,hy6,hy61,hy62⟩:=bJ h
  refine bV rfl ?_
  refine rf [0,1,5] [] (PN bH a_1 aw rfl ((aj (aw - (len a_1))),0) _ hy6 (fun r' e st hq=>by rw[hy61 r' e] at hq;exact hq) fun u6 hu=>?_)
  replace h:=hy62 u6 hu
  refine cq 5 [4] [I u6] 33 ?_
  obtain rfl:=sI h
  exact rP [I u6]
theorem UH {G:bZ}(bH:(Condition×Int)→Option Int)(OV:bW G 134 (ta bH)):bW G 168 (Cz bH):=gT 2 0 (aO OV bv) ca Tryz.func168 (fun a r h=>Zd bH a.1 a.2 r h)
noncomputable def Cy :=ta (aN qC)
theorem aeZ {a_1:Condition}{aw:Int}{r}(h:xz a_1 aw=some r):Cy.F (xA (a_1,aw))=some (xB r):=QW (aN qC) h
noncomputable def ae1 :=aG Tryz.f134
noncomputable def UD (bH:(Condition×Int)→Option Int):Env:=b9 [(168,(Cz bH))]
def ae0 (bH:(Condition×Int)→Option Int)(x:Condition×Int)(r:Int):St→Prop:=QF (UD bH) Tryz.f134 [false,false] (xA x) (xB r)
theorem Zc (bH:(Condition×Int)→Option Int)(a_1:Condition)(aw:Int)(r:Int)(h:uq bH a_1 aw=some r):bq (UD bH) Tryz.f134 [false,false] 0 (xA (a_1,aw)) (xB r):=by
 show Run _ _ (ae0 bH (a_1,aw) r) [.code ae1] _
 refine rI 19 [(0,bD a_1),(1,I aw)] [] 1 ?_
 unfold uq at h
 refine ck 20 [1,2,11] [] [1] [] [I (aj (aw - (len a_1.Name))),.hp 1 0 [] 4 0 0,B (decide ((aj (aw - (len a_1.Name)))<0))] [some ⟨0,4,[bD a_1]⟩] 161 (by kernel_rfl) ?_
 refine sq h ?_ ?_<;>intro h
 ·refine cq 4 [4] [I (-1)] 177 ?_
  obtain rfl:=sI h
  exact rP [I (-1)]
 ·refine aq 1 ?_
  refine cq 5 [13,14] [.isl false (a_1.Parts.map aB),I (aj (aw - (len a_1.Name)))] 209 ?_
  obtain⟨r3,hr3,h⟩:=bS h
  refine oq 225 (I r3) rfl (bM rfl rfl (b7 rfl rfl rfl (aR (bo rfl) (aR (bo rfl) cS)) (ae2 bH hr3) (.inr rfl) dH rfl rfl rfl)) ?_
  refine cq 8 [1,17] [I r3,B (decide (r3<0))] 273 ?_
  refine sq h ?_ ?_<;>intro h
  ·refine cq 4 [4] [I (-1)] 289 ?_
   obtain rfl:=sI h
   exact rP [I (-1)]
  ·refine aq 1 ?_
   refine cq 5 [4] [I r3] 305 ?_
   obtain rfl:=sI h
   exact rP [I r3]
theorem UE {G:bZ}:bW G 134 Cy:=jg fun bH OV=>gT 2 0 (aO (UH bH OV) bv) ca Tryz.func134 (fun a r h=>Zc bH a.1 a.2 r h)
def Fr:(Clause×Int)→List V:=cA ao (oA I)
def Fs (r:Int):V×List V:=(I r,[])
noncomputable def Cu :=bf [false,false] Fr Fs fun x=>vR x.1 x.2
theorem aeV {a_1:Clause}{aw:Int}{r}(h:vR a_1 aw=some r):Cu.F (Fr (a_1,aw))=some (Fs r):=aL (aH cG (aM bd)) h
noncomputable def aeX :=aG Tryz.f88
noncomputable def Uy :=b9 [(134,Cy)]
def aeW (x:Clause×Int)(r:Int):St→Prop:=QF Uy Tryz.f88 [false,false] (Fr x) (Fs r)
theorem Y8 (a_1:Clause)(aw:Int)(r:Int)(h:vR a_1 aw=some r):bq Uy Tryz.f88 [false,false] 0 (Fr (a_1,aw)) (Fs r):=by
 show Run _ _ (aeW (a_1,aw) r) [.code aeX] _
 refine rI 33 [(0,ao a_1),(1,I aw)] [] 1 ?_
 unfold vR at h
 refine ck 20 [1,2,11] [] [1] [] [I (aj (aw - (len a_1.Id))),.hp 1 0 [] 12 0 0,B (decide ((aj (aw - (len a_1.Id)))<0))] [some ⟨0,12,[ao a_1]⟩] 161 (by kernel_rfl) ?_
 refine sq h ?_ ?_<;>intro h
 ·refine cq 4 [4] [I (-1)] 177 ?_
  obtain rfl:=sI h
  exact rP [I (-1)]
 ·refine aq 1 ?_
  refine cq 15 [1,18] [I (aj ((aj (aw - (len a_1.Id))) - (len a_1.Action))),B (decide ((aj ((aj (aw - (len a_1.Id))) - (len a_1.Action)))<0))] 289 ?_
  refine sq h ?_ ?_<;>intro h
  ·refine cq 4 [4] [I (-1)] 305 ?_
   obtain rfl:=sI h
   exact rP [I (-1)]
  ·refine aq 1 ?_
   refine cq 5 [20,21] [bD a_1.When,I (aj ((aj (aw - (len a_1.Id))) - (len a_1.Action)))] 337 ?_
   obtain⟨r3,hr3,h⟩:=bS h
   refine oq 353 (I r3) rfl (cP (aeZ hr3)) ?_
   refine cq 8 [1,24] [I r3,B (decide (r3<0))] 401 ?_
   refine sq h ?_ ?_<;>intro h
   ·refine cq 4 [4] [I (-1)] 417 ?_
    obtain rfl:=sI h
    exact rP [I (-1)]
   ·refine aq 1 ?_
    refine cq 15 [1,31] [I (aj (r3 - (len a_1.Repair))),B (decide ((aj (r3 - (len a_1.Repair)))<0))] 529 ?_
    refine sq h ?_ ?_<;>intro h
    ·refine cq 4 [4] [I (-1)] 545 ?_
     obtain rfl:=sI h
     exact rP [I (-1)]
    ·refine aq 1 ?_
     refine cq 5 [4] [I (aj (r3 - (len a_1.Repair)))] 561 ?_
     obtain rfl:=sI h
     exact rP [I (aj (r3 - (len a_1.Repair)))]
theorem Uz {G:bZ}:bW G 88 Cu:=gT 2 0 (aO UE bv) ca Tryz.func88 (fun a r h=>Y8 a.1 a.2 r h)
def Ft:((List Clause)×Int)→List V:=cA (fP ao) (oA I)
def Fu (r:Int):V×List V:=(I r,[])
noncomputable def Cx :=bf [false,false] Ft Fu fun x=>Cw x.1 x.2
theorem aeY {a_1:List Clause}{aw:Int}{r}(h:Cw a_1 aw=some r):Cx.F (Ft (a_1,aw))=some (Fu r):=aL (aH (bC cG) (aM bd)) h
noncomputable def UB :=aG Tryz.f42
noncomputable def Nl :=b9 [(88,Cu)]
def UA (x:(List Clause)×Int)(r:Int):St→Prop:=QF Nl Tryz.f42 [false,false] (Ft x) (Fu r)
theorem PM (a_1:List Clause)(aw:Int):ct Nl 0 (UA (a_1,aw)) (cL (cL (cR (cL (cR (cR (cR UB))))))) 0 (uo a_1 aw) (fun u=>(sT 27 [(1,I u)] [] 1)) fun x3=>(sT 27 [(0,.isl false (a_1.map ao)),(1,I x3.1),(5,I x3.2)] [] 1):=ez (Ap a_1 aw) fun {Q K} hK self ih x3 y h hr hn=>by
 unfold nU at h
 refine cq 5 [12,13] [I x3.2,.isl false (a_1.map ao)] 33 ?_
 refine oq 49 (I (len a_1)) rfl (bA rfl rfl rfl (bR rfl)) ?_
 refine cq 2 [15] [B (decide (x3.2<(len a_1)))] 65 ?_
 refine sq h ?_ ?_<;>intro h
 ·refine aq 1 ?_
  refine cq 6 [18,19] [.isl false (a_1.map ao),I x3.2] 97 ?_
  obtain⟨e4,he4,h⟩:=bS h
  refine oq 113 (.iptr (ao e4) 0) rfl (al rfl rfl rfl (aW rfl rfl rfl rfl he4)) ?_
  refine cq 2 [21,22] [ao e4,I x3.1] 145 ?_
  obtain⟨r5,hr5,h⟩:=bS h
  refine oq 161 (I r5) rfl (cP (aeV hr5)) ?_
  refine cq 7 [1,25] [I r5,B (decide (r5<0))] 209 ?_
  refine sq h ?_ ?_<;>intro h
  ·refine cq 4 [4] [I (-1)] 225 ?_
   exact ci rfl (hr _ (ak h) _ (qp [I (-1)]))
  ·refine aq 1 ?_
   refine cq 6 [5] [I (aj (x3.2+1))] 257 ?_
   refine dC ?_
   exact rf [0,1,5] [] (ih _ _ h hr hn :)
 ·refine aq 1 ?_
  exact rf [1] [] (hn _ (ak h) :) (hk:=hK)
theorem Za (a_1:List Clause)(aw:Int)(r:Int)(h:Cw a_1 aw=some r):bq Nl Tryz.f42 [false,false] 0 (Ft (a_1,aw)) (Fu r):=by
 show Run _ _ (UA (a_1,aw) r) [.code UB] _
 refine rI 27 [(0,.isl false (a_1.map ao)),(1,I aw)] [] 1 ?_
 unfold Cw at h
 refine cq 8 [6,7] [I aw,.isl false (a_1.map ao)] 49 ?_
 refine oq 65 (I (len a_1)) rfl (bA rfl rfl rfl (bR rfl)) ?_
 refine cq 9 [1,11] [I (aj (aw - (len a_1))),B (decide ((aj (aw - (len a_1)))<0))] 129 ?_
 refine sq h ?_ ?_<;>intro h
 ·refine cq 4 [4] [I (-1)] 145 ?_
  obtain rfl:=sI h
  exact rP [I (-1)]
 ·refine aq 1 ?_
  refine cq 6 [5] [I (0)] 145 ?_
  obtain⟨y6,hy6,hy61,hy62⟩:=bJ h
  refine bV rfl ?_
  refine rf [0,1,5] [] (PM a_1 aw rfl ((aj (aw - (len a_1))),0) _ hy6 (fun r' e st hq=>by rw[hy61 r' e] at hq;exact hq) fun u6 hu=>?_)
  replace h:=hy62 u6 hu
  refine cq 5 [4] [I u6] 33 ?_
  obtain rfl:=sI h
  exact rP [I u6]
theorem UC {G:bZ}:bW G 42 Cx:=gT 2 0 (aO Uz bv) ca Tryz.func42 (fun a r h=>Za a.1 a.2 r h)
def Fx:(Contract×Int)→List V:=cA aV (oA I)
def Fy (r:Int):V×List V:=(I r,[])
noncomputable def CB :=bf [false,false] Fx Fy fun x=>CA x.1 x.2
theorem ae3 {a_1:Contract}{aw:Int}{r}(h:CA a_1 aw=some r):CB.F (Fx (a_1,aw))=some (Fy r):=aL (aH bc (aM bd)) h
noncomputable def ae5 :=aG Tryz.f12
noncomputable def UI :=b9 [(41,vS),(42,Cx)]
def ae4 (x:Contract×Int)(r:Int):St→Prop:=QF UI Tryz.f12 [false,false] (Fx x) (Fy r)
theorem Ze (a_1:Contract)(aw:Int)(r:Int)(h:CA a_1 aw=some r):bq UI Tryz.f12 [false,false] 0 (Fx (a_1,aw)) (Fy r):=by
 show Run _ _ (ae4 (a_1,aw) r) [.code ae5] _
 refine rI 18 [(0,aV a_1),(1,I aw)] [] 1 ?_
 unfold CA at h
 refine ck 10 [2,6,7] [] [1] [] [.hp 1 0 [] 2 0 0,.isl false (a_1.Parties.map str),I aw] [some ⟨0,2,[aV a_1]⟩] 81 (by kernel_rfl) ?_
 obtain⟨r3,hr3,h⟩:=bS h
 refine oq 97 (I r3) rfl (cP (UR hr3)) ?_
 refine cq 8 [1,10] [I r3,B (decide (r3<0))] 145 ?_
 refine sq h ?_ ?_<;>intro h
 ·refine cq 4 [4] [I (-1)] 161 ?_
  obtain rfl:=sI h
  exact rP [I (-1)]
 ·refine aq 1 ?_
  refine cq 5 [12,13] [.isl false (a_1.Clauses.map ao),I r3] 193 ?_
  obtain⟨r4,hr4,h⟩:=bS h
  refine oq 209 (I r4) rfl (cP (aeY hr4)) ?_
  refine cq 8 [1,16] [I r4,B (decide (r4<0))] 257 ?_
  refine sq h ?_ ?_<;>intro h
  ·refine cq 4 [4] [I (-1)] 273 ?_
   obtain rfl:=sI h
   exact rP [I (-1)]
  ·refine aq 1 ?_
   refine cq 5 [4] [I r4] 289 ?_
   obtain rfl:=sI h
   exact rP [I r4]
theorem UJ {G:bZ}:bW G 12 CB:=gT 2 0 (aO K1 (aO UC bv)) ca Tryz.func12 (fun a r h=>Ze a.1 a.2 r h)
def Fz:((List Duty)×Int)→List V:=cA (fP ah) (oA I)
def FA (r:Int):V×List V:=(I r,[])
noncomputable def CD :=bf [false,false] Fz FA fun x=>CC x.1 x.2
theorem ae6 {a_1:List Duty}{aw:Int}{r}(h:CC a_1 aw=some r):CD.F (Fz (a_1,aw))=some (FA r):=aL (aH (bC ec) (aM bd)) h
noncomputable def ae8 :=aG Tryz.f53
noncomputable def UK :=b9 []
def ae7 (x:(List Duty)×Int)(r:Int):St→Prop:=QF UK Tryz.f53 [false,false] (Fz x) (FA r)
theorem Zf (a_1:List Duty)(aw:Int)(r:Int)(h:CC a_1 aw=some r):bq UK Tryz.f53 [false,false] 0 (Fz (a_1,aw)) (FA r):=by
 show Run _ _ (ae7 (a_1,aw) r) [.code ae8] _
 refine rI 12 [(0,.isl false (a_1.map ah)),(1,I aw)] [] 1 ?_
 unfold CC at h
 refine cq 8 [5,6] [I aw,.isl false (a_1.map ah)] 49 ?_
 refine oq 65 (I (len a_1)) rfl (bA rfl rfl rfl (bR rfl)) ?_
 refine cq 9 [1,10] [I (aj (aw - (len a_1))),B (decide ((aj (aw - (len a_1)))<0))] 129 ?_
 refine sq h ?_ ?_<;>intro h
 ·refine cq 4 [4] [I (-1)] 145 ?_
  obtain rfl:=sI h
  exact rP [I (-1)]
 ·refine aq 1 ?_
  refine cq 5 [4] [I (aj (aw - (len a_1)))] 161 ?_
  obtain rfl:=sI h
  exact rP [I (aj (aw - (len a_1)))]
theorem UL {G:bZ}:bW G 53 CD:=gT 2 0 bv ca Tryz.func53 (fun a r h=>Zf a.1 a.2 r h)
def FB:((List Int)×Int)→List V:=cA (fP I) (oA I)
def FC (r:Int):V×List V:=(I r,[])
noncomputable def CF :=bf [false,false] FB FC fun x=>CE x.1 x.2
theorem ae9 {a_1:List Int}{aw:Int}{r}(h:CE a_1 aw=some r):CF.F (FB (a_1,aw))=some (FC r):=aL (aH (bC bd) (aM bd)) h
noncomputable def afb :=aG Tryz.f54
noncomputable def UM :=b9 []
def afa (x:(List Int)×Int)(r:Int):St→Prop:=QF UM Tryz.f54 [false,false] (FB x) (FC r)
theorem Zg (a_1:List Int)(aw:Int)(r:Int)(h:CE a_1 aw=some r):bq UM Tryz.f54 [false,false] 0 (FB (a_1,aw)) (FC r):=by
 show Run _ _ (afa (a_1,aw) r) [.code afb] _
 refine rI 12 [(0,.isl false (a_1.map I)),(1,I aw)] [] 1 ?_
 unfold CE at h
 refine cq 8 [5,6] [I aw,.isl false (a_1.map I)] 49 ?_
 refine oq 65 (I (len a_1)) rfl (bA rfl rfl rfl (bR rfl)) ?_
 refine cq 9 [1,10] [I (aj (aw - (len a_1))),B (decide ((aj (aw - (len a_1)))<0))] 129 ?_
 refine sq h ?_ ?_<;>intro h
 ·refine cq 4 [4] [I (-1)] 145 ?_
  obtain rfl:=sI h
  exact rP [I (-1)]
 ·refine aq 1 ?_
  refine cq 5 [4] [I (aj (aw - (len a_1)))] 161 ?_
  obtain rfl:=sI h
  exact rP [I (aj (aw - (len a_1)))]
theorem UN {G:bZ}:bW G 54 CF:=gT 2 0 bv ca Tryz.func54 (fun a r h=>Zg a.1 a.2 r h)
def FD:(State×Int)→List V:=cA bT (oA I)
def FE (r:Int):V×List V:=(I r,[])
noncomputable def CH :=bf [false,false] FD FE fun x=>CG x.1 x.2
theorem afc {a_1:State}{aw:Int}{r}(h:CG a_1 aw=some r):CH.F (FD (a_1,aw))=some (FE r):=aL (aH cb (aM bd)) h
noncomputable def afe :=aG Tryz.f21
noncomputable def UO :=b9 [(41,vS),(53,CD),(54,CF)]
def afd (x:State×Int)(r:Int):St→Prop:=QF UO Tryz.f21 [false,false] (FD x) (FE r)
theorem Zh (a_1:State)(aw:Int)(r:Int)(h:CG a_1 aw=some r):bq UO Tryz.f21 [false,false] 0 (FD (a_1,aw)) (FE r):=by
 show Run _ _ (afd (a_1,aw) r) [.code afe] _
 refine rI 24 [(0,bT a_1),(1,I aw)] [] 1 ?_
 unfold CG at h
 refine ck 10 [2,6,7] [] [1] [] [.hp 1 0 [] 5 0 0,.isl false (a_1.Facts.map str),I aw] [some ⟨0,5,[bT a_1]⟩] 81 (by kernel_rfl) ?_
 obtain⟨r3,hr3,h⟩:=bS h
 refine oq 97 (I r3) rfl (cP (UR hr3)) ?_
 refine cq 8 [1,10] [I r3,B (decide (r3<0))] 145 ?_
 refine sq h ?_ ?_<;>intro h
 ·refine cq 4 [4] [I (-1)] 161 ?_
  obtain rfl:=sI h
  exact rP [I (-1)]
 ·refine aq 1 ?_
  refine cq 5 [12,13] [.isl false (a_1.Duties.map ah),I r3] 193 ?_
  obtain⟨r4,hr4,h⟩:=bS h
  refine oq 209 (I r4) rfl (cP (ae6 hr4)) ?_
  refine cq 8 [1,16] [I r4,B (decide (r4<0))] 257 ?_
  refine sq h ?_ ?_<;>intro h
  ·refine cq 4 [4] [I (-1)] 273 ?_
   obtain rfl:=sI h
   exact rP [I (-1)]
  ·refine aq 1 ?_
   refine cq 5 [18,19] [.isl false (a_1.Balances.map I),I r4] 305 ?_
   obtain⟨r5,hr5,h⟩:=bS h
   refine oq 321 (I r5) rfl (cP (ae9 hr5)) ?_
   refine cq 8 [1,22] [I r5,B (decide (r5<0))] 369 ?_
   refine sq h ?_ ?_<;>intro h
   ·refine cq 4 [4] [I (-1)] 385 ?_
    obtain rfl:=sI h
    exact rP [I (-1)]
   ·refine aq 1 ?_
    refine cq 5 [4] [I r5] 401 ?_
    obtain rfl:=sI h
    exact rP [I r5]
theorem UQ {G:bZ}:bW G 21 CH:=gT 2 0 (aO K1 (aO UL (aO UN bv))) ca Tryz.func21 (fun a r h=>Zh a.1 a.2 r h)
def FX:(List ac)→List V:=oA (fP str)
def FY (r:(List ac)):V×List V:=(.usl 1 (r.map str),[])
noncomputable def vV :=bf [false] FX FY fun x=>xL x
theorem Vg {a_1:List ac}{r}(h:xL a_1=some r):vV.F (FX a_1)=some (FY r):=aL (aM (bC bx)) h
noncomputable def Vi :=aG Tryz.f45
noncomputable def Ns :=b9 []
def Vh (x:(List ac))(r:(List ac)):St→Prop:=QF Ns Tryz.f45 [false] (FX x) (FY r)
theorem PT (a_1:List ac):ct Ns 0 (Vh a_1) (cL (cL (cR (cL (cR (cR Vi)))))) 0 (uA a_1) (fun u=>(sT 22 [(3,.hs 1 0 [] 1 0 (u.map str).length)] [⟨0,1,u.map str⟩] 2)) fun x3=>(sT 22 [(0,.isl false (a_1.map str)),(3,.hs 1 0 [] 1 0 (x3.2.map str).length),(4,I x3.1)] [⟨0,1,x3.2.map str⟩] 2):=ez (Az a_1) fun {Q K} hK self ih x3 y h hr hn=>by
 unfold nZ at h
 refine cq 5 [8,9] [I x3.1,.isl false (a_1.map str)] 34 ?_
 refine oq 50 (I (len a_1)) rfl (bA rfl rfl rfl (bR rfl)) ?_
 refine cq 2 [11] [B (decide (x3.1<(len a_1)))] 66 ?_
 refine sq h ?_ ?_<;>intro h
 ·refine aq 1 ?_
  refine cq 7 [14,15,16,17] [.hs 1 0 [] 1 0 (x3.2.map str).length,I x3.1,.isl false (a_1.map str),I x3.1] 130 ?_
  obtain⟨e4,he4,h⟩:=bS h
  refine oq 146 (.iptr (str e4) 0) rfl (al rfl rfl rfl (aW rfl rfl rfl rfl he4)) ?_
  refine cq 1 [19] [str e4] 162 ?_
  obtain⟨e5,he5,h⟩:=bS h
  refine oq 178 (.hp 1 0 [] 1 (0+Int.toNat x3.1) 0) rfl (al rfl rfl rfl (d7 (f:=str) (xs:=x3.2) rfl rfl rfl he5)) ?_
  refine o0 194 rfl rfl (fZ rfl rfl (eX (path:=[]) (pl:=true) (e':=str e4) (es2':=(dM x3.2 x3.1 e4).map str) rfl (eb rfl) rfl rfl rfl aQ (dD (f:=str) (xs:=x3.2) he5) rfl rfl rfl (i9 (f:=str) (xs:=x3.2) (y:=e4)) ee 0 rfl)) ?_
  try rw[←io (f:=str) (xs:=x3.2) (i:=x3.1) (z:=e4)]
  refine cq 7 [4] [I (aj (x3.1+1))] 242 ?_
  refine dC ?_
  exact rf [0,3,4] [1] (ih _ _ h hr hn :)
 ·refine aq 1 ?_
  exact rf [3] [1] (hn _ (ak h) :) (hk:=hK)
theorem Zt (a_1:List ac)(r:(List ac))(h:xL a_1=some r):bq Ns Tryz.f45 [false] 0 (FX a_1) (FY r):=by
 show Run _ _ (Vh a_1 r) [.code Vi] _
 refine rI 22 [(0,.isl false (a_1.map str))] [] 1 ?_
 unfold xL at h
 refine cq 7 [5] [.isl false (a_1.map str)] 33 ?_
 refine oq 49 (I (len a_1)) rfl (bA rfl rfl rfl (bR rfl)) ?_
 obtain⟨m2,hm2,h⟩:=bS h
 refine oq 65 (.hs 49 0 [] 1 0 (m2.map str).length) rfl (lB rfl rfl (Jg (f:=str) rfl rfl rfl (by decide) hm2 rfl)) ?_
 refine cq 8 [3,4] [.hs 49 0 [] 1 0 (m2.map str).length,I (0)] 97 ?_
 obtain⟨y6,hy6,hy61,hy62⟩:=bJ h
 refine bV rfl ?_
 refine rf [0,3,4] [49] (PT a_1 rfl (0,m2) _ hy6 (fun r' e st hq=>by rw[hy61 r' e] at hq;exact hq) fun u6 hu=>?_)
 replace h:=hy62 u6 hu
 refine cq 5 [2] [.hs 1 0 [] 1 0 (u6.map str).length] 34 ?_
 obtain rfl:=sI h
 exact ci rfl ⟨_,fin (vs:=[.hs 1 0 [] 1 0 (u6.map str).length]) rfl (fU (fC rfl (cZ rfl rfl)) eg) rfl (dh fa),eW⟩
theorem K2 {G:bZ}:bW G 45 vV:=gT 1 0 bv ca Tryz.func45 (fun a r h=>Zt a r h)
def xF:Condition→List V:=oA bD
def xG (r:Condition):V×List V:=(qX r,[])
noncomputable def tc (bI:Condition→Option Condition):Ent:=bf [false] xF xG bI
theorem QX (bI:Condition→Option Condition){x}{r}(h:bI x=some r):(tc bI).F (xF x)=some (xG r):=aL (aM dt) h
def FL:(List Condition)→List V:=oA (fP aB)
def FM (r:(List Condition)):V×List V:=(.usl 4 (r.map aF),[])
noncomputable def CN (bI:Condition→Option Condition):Ent:=bf [false] FL FM fun x=>xH bI x
theorem afm (bI:Condition→Option Condition){a_1:List Condition}{r}(h:xH bI a_1=some r):(CN bI).F (FL a_1)=some (FM r):=aL (aM (bC f6)) h
noncomputable def U2 :=aG Tryz.f174
noncomputable def Np (bI:Condition→Option Condition):Env:=b9 [(139,(tc bI))]
def U1 (bI:Condition→Option Condition)(x:(List Condition))(r:(List Condition)):St→Prop:=QF (Np bI) Tryz.f174 [false] (FL x) (FM r)
theorem PQ (bI:Condition→Option Condition)(a_1:List Condition):ct (Np bI) 0 (U1 bI a_1) (cL (cL (cR (cL (cR (cR U2)))))) 0 (rT bI a_1) (fun u=>(sT 23 [(3,.hs 1 0 [] 4 0 (u.map aF).length)] [⟨0,4,u.map aF⟩] 2)) fun x3=>(sT 23 [(0,.isl false (a_1.map aB)),(3,.hs 1 0 [] 4 0 (x3.2.map aF).length),(4,I x3.1)] [⟨0,4,x3.2.map aF⟩] 2):=ez (Av bI a_1) fun {Q K} hK self ih x3 y h hr hn=>by
 unfold lT at h
 refine cq 5 [8,9] [I x3.1,.isl false (a_1.map aB)] 34 ?_
 refine oq 50 (I (len a_1)) rfl (bA rfl rfl rfl (bR rfl)) ?_
 refine cq 2 [11] [B (decide (x3.1<(len a_1)))] 66 ?_
 refine sq h ?_ ?_<;>intro h
 ·refine aq 1 ?_
  refine cq 7 [14,15,16,17] [.hs 1 0 [] 4 0 (x3.2.map aF).length,I x3.1,.isl false (a_1.map aB),I x3.1] 130 ?_
  obtain⟨e4,he4,h⟩:=bS h
  refine oq 146 (.iptr (bD e4) 0) rfl (al rfl rfl rfl (aW rfl rfl (bU e4) rfl he4)) ?_
  refine cq 1 [19] [bD e4] 162 ?_
  obtain⟨r5,hr5,h⟩:=bS h
  refine oq 178 (.agg [I r5.Op,str r5.Name,I r5.Day,.hs 162 0 [] 4 0 (r5.Parts.map aF).length]) rfl (bM rfl rfl (b7 rfl rfl rfl (aR (bo rfl) cS) (QX bI hr5) (.inr rfl) dH rfl rfl rfl)) ?_
  obtain⟨e6,he6,h⟩:=bS h
  refine oq 194 (.hp 1 0 [] 4 (0+Int.toNat x3.1) 0) rfl (al rfl rfl rfl (d7 (f:=aF) (xs:=x3.2) rfl rfl rfl he6)) ?_
  refine o0 210 rfl rfl (fZ rfl rfl (eX (path:=[]) (pl:=false) (e':=qX r5) (es2':=(dM x3.2 x3.1 r5).map aF) rfl (mW (cg (cO rfl) (cg (cO rfl) (cg (cO rfl) (cg (cZ rfl rfl) mX))))) rfl rfl rfl aQ (abd (f:=aF) (xs:=x3.2) (mY e6) he6) rfl rfl rfl (abC (f:=aF) (xs:=x3.2) (mY r5)) ee 1 rfl)) ?_
  try rw[←io (f:=aF) (xs:=x3.2) (i:=x3.1) (z:=r5)]
  refine cq 7 [4] [I (aj (x3.1+1))] 258 ?_
  refine dC ?_
  exact rf [0,3,4] [1] (ih _ _ h hr hn :)
 ·refine aq 1 ?_
  exact rf [3] [1] (hn _ (ak h) :) (hk:=hK)
theorem Zn (bI:Condition→Option Condition)(a_1:List Condition)(r:(List Condition))(h:xH bI a_1=some r):bq (Np bI) Tryz.f174 [false] 0 (FL a_1) (FM r):=by
 show Run _ _ (U1 bI a_1 r) [.code U2] _
 refine rI 23 [(0,.isl false (a_1.map aB))] [] 1 ?_
 unfold xH at h
 refine cq 7 [5] [.isl false (a_1.map aB)] 33 ?_
 refine oq 49 (I (len a_1)) rfl (bA rfl rfl rfl (bR rfl)) ?_
 obtain⟨m2,hm2,h⟩:=bS h
 refine oq 65 (.hs 49 0 [] 4 0 (m2.map aF).length) rfl (lB rfl rfl (X7 (g:=aF) (f:=fun _=>(.agg [I (0),str ([]),I (0),.isl true []]:V)) (z0:=(Condition.mk 0 [] 0 [])) rfl rfl rfl (by decide) hm2 rfl)) ?_
 refine fK 49 (m2.map aF) rfl rfl (OH hm2 ((mY _).symm▸gC (aJ (.refl _) (aJ (.refl _) (aJ (.refl _) (aJ (.nil _) eF)))))) ?_
 refine cq 8 [3,4] [.hs 49 0 [] 4 0 (m2.map aF).length,I (0)] 97 ?_
 obtain⟨y7,hy7,hy71,hy72⟩:=bJ h
 refine bV rfl ?_
 refine rf [0,3,4] [49] (PQ bI a_1 rfl (0,m2) _ hy7 (fun r' e st hq=>by rw[hy71 r' e] at hq;exact hq) fun u7 hu=>?_)
 replace h:=hy72 u7 hu
 refine cq 5 [2] [.hs 1 0 [] 4 0 (u7.map aF).length] 34 ?_
 obtain rfl:=sI h
 exact ci rfl ⟨_,fin (vs:=[.hs 1 0 [] 4 0 (u7.map aF).length]) rfl (fU (fC rfl (cZ rfl rfl)) eg) rfl (dh fa),eW⟩
theorem U3 {G:bZ}(bI:Condition→Option Condition)(OW:bW G 139 (tc bI)):bW G 174 (CN bI):=gT 1 0 (aO OW bv) ca Tryz.func174 (fun a r h=>Zn bI a r h)
noncomputable def CM :=tc (aN qD)
theorem afj {a_1:Condition}{r}(h:CL a_1=some r):CM.F (xF a_1)=some (xG r):=QX (aN qD) h
noncomputable def afl :=aG Tryz.f139
noncomputable def UZ (bI:Condition→Option Condition):Env:=b9 [(174,(CN bI))]
def afk (bI:Condition→Option Condition)(x:Condition)(r:Condition):St→Prop:=QF (UZ bI) Tryz.f139 [false] (xF x) (xG r)
theorem Zm (bI:Condition→Option Condition)(a_1:Condition)(r:Condition)(h:uu bI a_1=some r):bq (UZ bI) Tryz.f139 [false] 0 (xF a_1) (xG r):=by
 show Run _ _ (afk bI a_1 r) [.code afl] _
 refine rI 18 [(0,bD a_1)] [] 1 ?_
 unfold uu at h
 refine ck 4 [1,2] [] [1,17] [] [.hp 1 0 [] 4 0 0,.hp 17 0 [] 4 0 0] [some ⟨0,4,[bD a_1]⟩,some ⟨0,4,[.agg [I (0),str ([]),I (0),.isl true []]]⟩] 33 (by kernel_rfl) ?_
 refine fK 17 [.agg [I (0),str ([]),I (0),.usl 4 (([]).map aF)]] rfl rfl (aJ (gC (aJ (.refl _) (aJ (.refl _) (aJ (.refl _) (aJ (.nil _) eF))))) eF) ?_
 refine ck 4 [3] [] [33] [] [.hp 33 0 [] 4 0 0] [some ⟨0,4,[.agg [I (0),str ([]),I (0),.isl true []]]⟩] 49 (by kernel_rfl) ?_
 refine fK 33 [.agg [I (0),str ([]),I (0),.usl 4 (([]).map aF)]] rfl rfl (aJ (gC (aJ (.refl _) (aJ (.refl _) (aJ (.refl _) (aJ (.nil _) eF))))) eF) ?_
 refine ck 26 [14] [] [33] [] [.isl false (a_1.Parts.map aB)] [some ⟨1,4,[.agg [I a_1.Op,str a_1.Name,I a_1.Day,.usl 4 (([]).map aF)]]⟩] 273 (by kernel_rfl) ?_
 obtain⟨r2,hr2,h⟩:=bS h
 refine oq 289 (.hs 273 0 [] 4 0 (r2.map aF).length) rfl (bM rfl rfl (b7 rfl rfl rfl (aR (bo rfl) cS) (afm bI hr2) (.inr rfl) dH rfl rfl rfl)) ?_
 refine cq 1 [16] [.hp 33 0 [] 4 0 3] 305 ?_
 refine o0 321 rfl rfl (fZ rfl rfl (eX (path:=[]) (pl:=false) (e':=.agg [I a_1.Op,str a_1.Name,I a_1.Day,.usl 4 (r2.map aF)]) (es2':=[.agg [I a_1.Op,str a_1.Name,I a_1.Day,.usl 4 (r2.map aF)]]) rfl (fC rfl (cZ rfl rfl)) rfl rfl rfl aQ rfl rfl rfl rfl rfl ee 2 rfl)) ?_
 refine cq 4 [17] [.agg [I a_1.Op,str a_1.Name,I a_1.Day,.hs 33 2 [(0,3)] 4 0 (r2.map aF).length]] 337 ?_
 refine o0 353 rfl rfl (fZ rfl rfl (eX (path:=[]) (pl:=false) (e':=.agg [I a_1.Op,str a_1.Name,I a_1.Day,.usl 4 (r2.map aF)]) (es2':=[.agg [I a_1.Op,str a_1.Name,I a_1.Day,.usl 4 (r2.map aF)]]) rfl (mW (cg (cO rfl) (cg (cO rfl) (cg (cO rfl) (cg (gj (path:=[(0,3)]) rfl rfl (f8 rfl rfl aQ) rfl (ky (path:=[]) (i:=0) (k:=3) (e':=.agg [I a_1.Op,str a_1.Name,I a_1.Day,.dead]) (es2':=[.agg [I a_1.Op,str a_1.Name,I a_1.Day,.dead]]) aQ rfl rfl rfl ee)) mX))))) rfl rfl rfl aQ rfl rfl rfl rfl rfl ee 2 rfl)) ?_
 refine aq 1 ?_
 obtain rfl:=sI h
 exact ci rfl ⟨_,fin (vs:=[.agg [I a_1.Op,str a_1.Name,I a_1.Day,.hs 17 2 [(0,3)] 4 0 (r2.map aF).length]]) (KP (se rfl rfl rfl) KQ) (fU (mW (cg (cO rfl) (cg (cO rfl) (cg (cO rfl) (cg (gj (path:=[(0,3)]) rfl rfl (f8 rfl rfl aQ) rfl (ky (path:=[]) (i:=0) (k:=3) (e':=.agg [I a_1.Op,str a_1.Name,I a_1.Day,.dead]) (es2':=[.agg [I a_1.Op,str a_1.Name,I a_1.Day,.dead]]) aQ rfl rfl rfl ee)) mX))))) eg) rfl (dh fa),eW⟩
theorem U0 {G:bZ}:bW G 139 CM:=jg fun bI OW=>gT 1 0 (aO (U3 bI OW) bv) ca Tryz.func139 (fun a r h=>Zm bI a r h)
def FH:Clause→List V:=oA ao
def FI (r:Clause):V×List V:=(vM r,[])
noncomputable def CI :=bf [false] FH FI fun x=>xE x
theorem aff {a_1:Clause}{r}(h:xE a_1=some r):CI.F (FH a_1)=some (FI r):=aL (aM cG) h
noncomputable def afh :=aG Tryz.f97
noncomputable def UU :=b9 [(139,CM)]
def afg (x:Clause)(r:Clause):St→Prop:=QF UU Tryz.f97 [false] (FH x) (FI r)
theorem Zj (a_1:Clause)(r:Clause)(h:xE a_1=some r):bq UU Tryz.f97 [false] 0 (FH a_1) (FI r):=by
 show Run _ _ (afg a_1 r) [.code afh] _
 refine rI 33 [(0,ao a_1)] [] 1 ?_
 unfold xE at h
 refine ck 4 [1,2] [] [1,17] [] [.hp 1 0 [] 12 0 0,.hp 17 0 [] 12 0 0] [some ⟨0,12,[ao a_1]⟩,some ⟨0,12,[.agg [str ([]),I (0),I (0),str ([]),I (0),I (0),I (0),str ([]),I (0),.isl true [],I (0),str ([])]]⟩] 33 (by kernel_rfl) ?_
 refine fK 17 [.agg [str ([]),I (0),I (0),str ([]),I (0),I (0),I (0),str ([]),I (0),.usl 4 (([]).map aF),I (0),str ([])]] rfl rfl (aJ (gC (aJ (.refl _) (aJ (.refl _) (aJ (.refl _) (aJ (.refl _) (aJ (.refl _) (aJ (.refl _) (aJ (.refl _) (aJ (.refl _) (aJ (.refl _) (aJ (.nil _) (aJ (.refl _) (aJ (.refl _) eF))))))))))))) eF) ?_
 refine ck 4 [3] [] [33] [] [.hp 33 0 [] 12 0 0] [some ⟨0,12,[.agg [str ([]),I (0),I (0),str ([]),I (0),I (0),I (0),str ([]),I (0),.isl true [],I (0),str ([])]]⟩] 49 (by kernel_rfl) ?_
 refine fK 33 [.agg [str ([]),I (0),I (0),str ([]),I (0),I (0),I (0),str ([]),I (0),.usl 4 (([]).map aF),I (0),str ([])]] rfl rfl (aJ (gC (aJ (.refl _) (aJ (.refl _) (aJ (.refl _) (aJ (.refl _) (aJ (.refl _) (aJ (.refl _) (aJ (.refl _) (aJ (.refl _) (aJ (.refl _) (aJ (.nil _) (aJ (.refl _) (aJ (.refl _) eF))))))))))))) eF) ?_
 refine ck 47 [23] [] [33] [] [bD a_1.When] [some ⟨1,12,[.agg [str a_1.Id,I a_1.Kind,I a_1.Party,str a_1.Action,I a_1.Other,I a_1.Amount,I (0),str ([]),I (0),.usl 4 (([]).map aF),I (0),str ([])]]⟩] 465 (by kernel_rfl) ?_
 obtain⟨r2,hr2,h⟩:=bS h
 refine oq 481 (.agg [I r2.Op,str r2.Name,I r2.Day,.hs 465 0 [] 4 0 (r2.Parts.map aF).length]) rfl (cP (afj hr2)) ?_
 refine cq 1 [25] [.hp 33 0 [] 12 0 6] 497 ?_
 refine o0 513 rfl rfl (fZ rfl rfl (eX (path:=[]) (pl:=false) (e':=.agg [str a_1.Id,I a_1.Kind,I a_1.Party,str a_1.Action,I a_1.Other,I a_1.Amount,I r2.Op,str r2.Name,I r2.Day,.usl 4 (r2.Parts.map aF),I (0),str ([])]) (es2':=[.agg [str a_1.Id,I a_1.Kind,I a_1.Party,str a_1.Action,I a_1.Other,I a_1.Amount,I r2.Op,str r2.Name,I r2.Day,.usl 4 (r2.Parts.map aF),I (0),str ([])]]) rfl (mW (cg (cO rfl) (cg (cO rfl) (cg (cO rfl) (cg (cZ rfl rfl) mX))))) rfl rfl rfl aQ rfl rfl rfl rfl rfl ee 2 rfl)) ?_
 refine ck 18 [32] [] [33] [] [.agg [str a_1.Id,I a_1.Kind,I a_1.Party,str a_1.Action,I a_1.Other,I a_1.Amount,I r2.Op,str r2.Name,I r2.Day,.hs 33 2 [(0,9)] 4 0 (r2.Parts.map aF).length,I a_1.Within,str a_1.Repair]] [some ⟨2,12,[.agg [str a_1.Id,I a_1.Kind,I a_1.Party,str a_1.Action,I a_1.Other,I a_1.Amount,I r2.Op,str r2.Name,I r2.Day,.usl 4 (r2.Parts.map aF),I a_1.Within,str a_1.Repair]]⟩] 657 (by kernel_rfl) ?_
 refine o0 673 rfl rfl (fZ rfl rfl (eX (path:=[]) (pl:=false) (e':=.agg [str a_1.Id,I a_1.Kind,I a_1.Party,str a_1.Action,I a_1.Other,I a_1.Amount,I r2.Op,str r2.Name,I r2.Day,.usl 4 (r2.Parts.map aF),I a_1.Within,str a_1.Repair]) (es2':=[.agg [str a_1.Id,I a_1.Kind,I a_1.Party,str a_1.Action,I a_1.Other,I a_1.Amount,I r2.Op,str r2.Name,I r2.Day,.usl 4 (r2.Parts.map aF),I a_1.Within,str a_1.Repair]]) rfl (mW (cg (cO rfl) (cg (cO rfl) (cg (cO rfl) (cg (cO rfl) (cg (cO rfl) (cg (cO rfl) (cg (cO rfl) (cg (cO rfl) (cg (cO rfl) (cg (gj (path:=[(0,9)]) rfl rfl (f8 rfl rfl aQ) rfl (ky (path:=[]) (i:=0) (k:=9) (e':=.agg [str a_1.Id,I a_1.Kind,I a_1.Party,str a_1.Action,I a_1.Other,I a_1.Amount,I r2.Op,str r2.Name,I r2.Day,.dead,I a_1.Within,str a_1.Repair]) (es2':=[.agg [str a_1.Id,I a_1.Kind,I a_1.Party,str a_1.Action,I a_1.Other,I a_1.Amount,I r2.Op,str r2.Name,I r2.Day,.dead,I a_1.Within,str a_1.Repair]]) aQ rfl rfl rfl ee)) (cg (cO rfl) (cg (cO rfl) mX))))))))))))) rfl rfl rfl aQ rfl rfl rfl rfl rfl ee 2 rfl)) ?_
 refine aq 1 ?_
 obtain rfl:=sI h
 exact ci rfl ⟨_,fin (vs:=[.agg [str a_1.Id,I a_1.Kind,I a_1.Party,str a_1.Action,I a_1.Other,I a_1.Amount,I r2.Op,str r2.Name,I r2.Day,.hs 17 2 [(0,9)] 4 0 (r2.Parts.map aF).length,I a_1.Within,str a_1.Repair]]) (KP (se rfl rfl rfl) KQ) (fU (mW (cg (cO rfl) (cg (cO rfl) (cg (cO rfl) (cg (cO rfl) (cg (cO rfl) (cg (cO rfl) (cg (cO rfl) (cg (cO rfl) (cg (cO rfl) (cg (gj (path:=[(0,9)]) rfl rfl (f8 rfl rfl aQ) rfl (ky (path:=[]) (i:=0) (k:=9) (e':=.agg [str a_1.Id,I a_1.Kind,I a_1.Party,str a_1.Action,I a_1.Other,I a_1.Amount,I r2.Op,str r2.Name,I r2.Day,.dead,I a_1.Within,str a_1.Repair]) (es2':=[.agg [str a_1.Id,I a_1.Kind,I a_1.Party,str a_1.Action,I a_1.Other,I a_1.Amount,I r2.Op,str r2.Name,I r2.Day,.dead,I a_1.Within,str a_1.Repair]]) aQ rfl rfl rfl ee)) (cg (cO rfl) (cg (cO rfl) mX))))))))))))) eg) rfl (dh fa),eW⟩
theorem UV {G:bZ}:bW G 97 CI:=gT 1 0 (aO U0 bv) ca Tryz.func97 (fun a r h=>Zj a r h)
def FJ:(List Clause)→List V:=oA (fP ao)
def FK (r:(List Clause)):V×List V:=(.usl 12 (r.map bh),[])
noncomputable def CK :=bf [false] FJ FK fun x=>CJ x
theorem afi {a_1:List Clause}{r}(h:CJ a_1=some r):CK.F (FJ a_1)=some (FK r):=aL (aM (bC cG)) h
noncomputable def UX :=aG Tryz.f46
noncomputable def No :=b9 [(97,CI)]
def UW (x:(List Clause))(r:(List Clause)):St→Prop:=QF No Tryz.f46 [false] (FJ x) (FK r)
theorem PP (a_1:List Clause):ct No 0 (UW a_1) (cL (cL (cR (cL (cR (cR UX)))))) 0 (ut a_1) (fun u=>(sT 23 [(3,.hs 1 0 [] 12 0 (u.map bh).length)] [⟨0,12,u.map bh⟩] 2)) fun x3=>(sT 23 [(0,.isl false (a_1.map ao)),(3,.hs 1 0 [] 12 0 (x3.2.map bh).length),(4,I x3.1)] [⟨0,12,x3.2.map bh⟩] 2):=ez (Au a_1) fun {Q K} hK self ih x3 y h hr hn=>by
 unfold nW at h
 refine cq 5 [8,9] [I x3.1,.isl false (a_1.map ao)] 34 ?_
 refine oq 50 (I (len a_1)) rfl (bA rfl rfl rfl (bR rfl)) ?_
 refine cq 2 [11] [B (decide (x3.1<(len a_1)))] 66 ?_
 refine sq h ?_ ?_<;>intro h
 ·refine aq 1 ?_
  refine cq 7 [14,15,16,17] [.hs 1 0 [] 12 0 (x3.2.map bh).length,I x3.1,.isl false (a_1.map ao),I x3.1] 130 ?_
  obtain⟨e4,he4,h⟩:=bS h
  refine oq 146 (.iptr (ao e4) 0) rfl (al rfl rfl rfl (aW rfl rfl rfl rfl he4)) ?_
  refine cq 1 [19] [ao e4] 162 ?_
  obtain⟨r5,hr5,h⟩:=bS h
  refine oq 178 (.agg [str r5.Id,I r5.Kind,I r5.Party,str r5.Action,I r5.Other,I r5.Amount,I r5.When.Op,str r5.When.Name,I r5.When.Day,.hs 162 0 [] 4 0 (r5.When.Parts.map aF).length,I r5.Within,str r5.Repair]) rfl (cP (aff hr5)) ?_
  obtain⟨e6,he6,h⟩:=bS h
  refine oq 194 (.hp 1 0 [] 12 (0+Int.toNat x3.1) 0) rfl (al rfl rfl rfl (d7 (f:=bh) (xs:=x3.2) rfl rfl rfl he6)) ?_
  refine o0 210 rfl rfl (fZ rfl rfl (eX (path:=[]) (pl:=false) (e':=vM r5) (es2':=(dM x3.2 x3.1 r5).map bh) rfl (mW (cg (cO rfl) (cg (cO rfl) (cg (cO rfl) (cg (cO rfl) (cg (cO rfl) (cg (cO rfl) (cg (cO rfl) (cg (cO rfl) (cg (cO rfl) (cg (cZ rfl rfl) (cg (cO rfl) (cg (cO rfl) mX))))))))))))) rfl rfl rfl aQ (dD (f:=bh) (xs:=x3.2) he6) rfl rfl rfl (i9 (f:=bh) (xs:=x3.2) (y:=r5)) ee 1 rfl)) ?_
  try rw[←io (f:=bh) (xs:=x3.2) (i:=x3.1) (z:=r5)]
  refine cq 7 [4] [I (aj (x3.1+1))] 258 ?_
  refine dC ?_
  exact rf [0,3,4] [1] (ih _ _ h hr hn :)
 ·refine aq 1 ?_
  exact rf [3] [1] (hn _ (ak h) :) (hk:=hK)
theorem Zk (a_1:List Clause)(r:(List Clause))(h:CJ a_1=some r):bq No Tryz.f46 [false] 0 (FJ a_1) (FK r):=by
 show Run _ _ (UW a_1 r) [.code UX] _
 refine rI 23 [(0,.isl false (a_1.map ao))] [] 1 ?_
 unfold CJ at h
 refine cq 7 [5] [.isl false (a_1.map ao)] 33 ?_
 refine oq 49 (I (len a_1)) rfl (bA rfl rfl rfl (bR rfl)) ?_
 obtain⟨m2,hm2,h⟩:=bS h
 refine oq 65 (.hs 49 0 [] 12 0 (m2.map bh).length) rfl (lB rfl rfl (X7 (g:=bh) (f:=fun _=>(.agg [str ([]),I (0),I (0),str ([]),I (0),I (0),I (0),str ([]),I (0),.isl true [],I (0),str ([])]:V)) (z0:=(Clause.mk [] 0 0 [] 0 0 (Condition.mk 0 [] 0 []) 0 [])) rfl rfl rfl (by decide) hm2 rfl)) ?_
 refine fK 49 (m2.map bh) rfl rfl (OH hm2 (gC (aJ (.refl _) (aJ (.refl _) (aJ (.refl _) (aJ (.refl _) (aJ (.refl _) (aJ (.refl _) (aJ (.refl _) (aJ (.refl _) (aJ (.refl _) (aJ (.nil _) (aJ (.refl _) (aJ (.refl _) eF)))))))))))))) ?_
 refine cq 8 [3,4] [.hs 49 0 [] 12 0 (m2.map bh).length,I (0)] 97 ?_
 obtain⟨y7,hy7,hy71,hy72⟩:=bJ h
 refine bV rfl ?_
 refine rf [0,3,4] [49] (PP a_1 rfl (0,m2) _ hy7 (fun r' e st hq=>by rw[hy71 r' e] at hq;exact hq) fun u7 hu=>?_)
 replace h:=hy72 u7 hu
 refine cq 5 [2] [.hs 1 0 [] 12 0 (u7.map bh).length] 34 ?_
 obtain rfl:=sI h
 exact ci rfl ⟨_,fin (vs:=[.hs 1 0 [] 12 0 (u7.map bh).length]) rfl (fU (fC rfl (cZ rfl rfl)) eg) rfl (dh fa),eW⟩
theorem UY {G:bZ}:bW G 46 CK:=gT 1 0 (aO UV bv) ca Tryz.func46 (fun a r h=>Zk a r h)
def FN:Contract→List V:=oA aV
def FO (r:Contract):V×List V:=(.agg [.usl 1 (r.Parties.map str),.usl 12 (r.Clauses.map bh)],[])
noncomputable def CO :=bf [false] FN FO fun x=>vT x
theorem xI {a_1:Contract}{r}(h:vT a_1=some r):CO.F (FN a_1)=some (FO r):=aL (aM bc) h
noncomputable def afo :=aG Tryz.f14
noncomputable def U4 :=b9 [(45,vV),(46,CK)]
def afn (x:Contract)(r:Contract):St→Prop:=QF U4 Tryz.f14 [false] (FN x) (FO r)
theorem Zo (a_1:Contract)(r:Contract)(h:vT a_1=some r):bq U4 Tryz.f14 [false] 0 (FN a_1) (FO r):=by
 show Run _ _ (afn a_1 r) [.code afo] _
 refine rI 13 [(0,aV a_1)] [] 1 ?_
 unfold vT at h
 refine ck 4 [1,2] [] [1,17] [] [.hp 1 0 [] 2 0 0,.hp 17 0 [] 2 0 0] [some ⟨0,2,[aV a_1]⟩,some ⟨0,2,[.agg [.isl true [],.isl true []]]⟩] 33 (by kernel_rfl) ?_
 refine fK 17 [.agg [.usl 1 (([]).map str),.usl 12 (([]).map bh)]] rfl rfl (aJ (gC (aJ (.nil _) (aJ (.nil _) eF))) eF) ?_
 refine ck 4 [3] [] [33] [] [.hp 33 0 [] 2 0 0] [some ⟨0,2,[.agg [.isl true [],.isl true []]]⟩] 49 (by kernel_rfl) ?_
 refine fK 33 [.agg [.usl 1 (([]).map str),.usl 12 (([]).map bh)]] rfl rfl (aJ (gC (aJ (.nil _) (aJ (.nil _) eF))) eF) ?_
 refine cq 5 [5] [.isl false (a_1.Parties.map str)] 81 ?_
 obtain⟨r2,hr2,h⟩:=bS h
 refine oq 97 (.hs 81 0 [] 1 0 (r2.map str).length) rfl (cP (Vg hr2)) ?_
 refine cq 1 [7] [.hp 33 0 [] 2 0 0] 113 ?_
 refine o0 129 rfl rfl (fZ rfl rfl (eX (path:=[]) (pl:=false) (e':=.agg [.usl 1 (r2.map str),.usl 12 (([]).map bh)]) (es2':=[.agg [.usl 1 (r2.map str),.usl 12 (([]).map bh)]]) rfl (fC rfl (cZ rfl rfl)) rfl rfl rfl aQ rfl rfl rfl rfl rfl ee 2 rfl)) ?_
 refine cq 5 [9] [.isl false (a_1.Clauses.map ao)] 161 ?_
 obtain⟨r3,hr3,h⟩:=bS h
 refine oq 177 (.hs 161 0 [] 12 0 (r3.map bh).length) rfl (cP (afi hr3)) ?_
 refine cq 1 [11] [.hp 33 0 [] 2 0 1] 193 ?_
 refine o0 209 rfl rfl (fZ rfl rfl (eX (path:=[]) (pl:=false) (e':=.agg [.usl 1 (r2.map str),.usl 12 (r3.map bh)]) (es2':=[.agg [.usl 1 (r2.map str),.usl 12 (r3.map bh)]]) rfl (fC rfl (cZ rfl rfl)) rfl rfl rfl aQ rfl rfl rfl rfl rfl ee 3 rfl)) ?_
 refine cq 4 [12] [.agg [.hs 33 3 [(0,0)] 1 0 (r2.map str).length,.hs 33 3 [(0,1)] 12 0 (r3.map bh).length]] 225 ?_
 refine o0 241 rfl rfl (fZ rfl rfl (eX (path:=[]) (pl:=false) (e':=.agg [.usl 1 (r2.map str),.usl 12 (r3.map bh)]) (es2':=[.agg [.usl 1 (r2.map str),.usl 12 (r3.map bh)]]) rfl (mW (cg (gj (path:=[(0,0)]) rfl rfl (f8 rfl rfl aQ) rfl (ky (path:=[]) (i:=0) (k:=0) (e':=.agg [.dead,.usl 12 (r3.map bh)]) (es2':=[.agg [.dead,.usl 12 (r3.map bh)]]) aQ rfl rfl rfl ee)) (cg (gj (path:=[(0,1)]) rfl rfl (f8 rfl rfl aQ) rfl (ky (path:=[]) (i:=0) (k:=1) (e':=.agg [.dead,.dead]) (es2':=[.agg [.dead,.dead]]) aQ rfl rfl rfl ee)) mX))) rfl rfl rfl aQ rfl rfl rfl rfl rfl ee 2 rfl)) ?_
 refine aq 1 ?_
 obtain rfl:=sI h
 exact ci rfl ⟨_,fin (vs:=[.agg [.hs 17 2 [(0,0)] 1 0 (r2.map str).length,.hs 17 2 [(0,1)] 12 0 (r3.map bh).length]]) (KP (se rfl rfl rfl) KQ) (fU (mW (cg (gj (path:=[(0,0)]) rfl rfl (f8 rfl rfl aQ) rfl (ky (path:=[]) (i:=0) (k:=0) (e':=.agg [.dead,.usl 12 (r3.map bh)]) (es2':=[.agg [.dead,.usl 12 (r3.map bh)]]) aQ rfl rfl rfl ee)) (cg (gj (path:=[(0,1)]) rfl rfl (f8 rfl rfl aQ) rfl (ky (path:=[]) (i:=0) (k:=1) (e':=.agg [.dead,.dead]) (es2':=[.agg [.dead,.dead]]) aQ rfl rfl rfl ee)) mX))) eg) rfl (dh fa),eW⟩
theorem U5 {G:bZ}:bW G 14 CO:=gT 1 0 (aO K2 (aO UY bv)) ca Tryz.func14 (fun a r h=>Zo a r h)
def FP:Duty→List V:=oA ah
def FQ (r:Duty):V×List V:=(ah r,[])
noncomputable def CP :=bf [false] FP FQ fun x=>xJ x
theorem afp {a_1:Duty}{r}(h:xJ a_1=some r):CP.F (FP a_1)=some (FQ r):=aL (aM ec) h
noncomputable def afr :=aG Tryz.f108
noncomputable def U6 :=b9 []
def afq (x:Duty)(r:Duty):St→Prop:=QF U6 Tryz.f108 [false] (FP x) (FQ r)
theorem Zp (a_1:Duty)(r:Duty)(h:xJ a_1=some r):bq U6 Tryz.f108 [false] 0 (FP a_1) (FQ r):=by
 show Run _ _ (afq a_1 r) [.code afr] _
 refine rI 17 [(0,ah a_1)] [] 1 ?_
 unfold xJ at h
 refine ck 42 [2] [] [17] [] [.hp 17 0 [] 4 0 0] [some ⟨0,4,[ah a_1]⟩] 337 (by kernel_rfl) ?_
 obtain rfl:=sI h
 exact ci rfl ⟨_,fin (vs:=[ah a_1]) (KP (se rfl rfl rfl) KQ) (fU (eb rfl) eg) rfl (dh fa),eW⟩
theorem U7 {G:bZ}:bW G 108 CP:=gT 1 0 bv ca Tryz.func108 (fun a r h=>Zp a r h)
def FR:(List Duty)→List V:=oA (fP ah)
def FS (r:(List Duty)):V×List V:=(.usl 4 (r.map ah),[])
noncomputable def CR :=bf [false] FR FS fun x=>CQ x
theorem afs {a_1:List Duty}{r}(h:CQ a_1=some r):CR.F (FR a_1)=some (FS r):=aL (aM (bC ec)) h
noncomputable def U9 :=aG Tryz.f57
noncomputable def Nq :=b9 [(108,CP)]
def U8 (x:(List Duty))(r:(List Duty)):St→Prop:=QF Nq Tryz.f57 [false] (FR x) (FS r)
theorem PR (a_1:List Duty):ct Nq 0 (U8 a_1) (cL (cL (cR (cL (cR (cR U9)))))) 0 (uw a_1) (fun u=>(sT 23 [(3,.hs 1 0 [] 4 0 (u.map ah).length)] [⟨0,4,u.map ah⟩] 2)) fun x3=>(sT 23 [(0,.isl false (a_1.map ah)),(3,.hs 1 0 [] 4 0 (x3.2.map ah).length),(4,I x3.1)] [⟨0,4,x3.2.map ah⟩] 2):=ez (Aw a_1) fun {Q K} hK self ih x3 y h hr hn=>by
 unfold nX at h
 refine cq 5 [8,9] [I x3.1,.isl false (a_1.map ah)] 34 ?_
 refine oq 50 (I (len a_1)) rfl (bA rfl rfl rfl (bR rfl)) ?_
 refine cq 2 [11] [B (decide (x3.1<(len a_1)))] 66 ?_
 refine sq h ?_ ?_<;>intro h
 ·refine aq 1 ?_
  refine cq 7 [14,15,16,17] [.hs 1 0 [] 4 0 (x3.2.map ah).length,I x3.1,.isl false (a_1.map ah),I x3.1] 130 ?_
  obtain⟨e4,he4,h⟩:=bS h
  refine oq 146 (.iptr (ah e4) 0) rfl (al rfl rfl rfl (aW rfl rfl rfl rfl he4)) ?_
  refine cq 1 [19] [ah e4] 162 ?_
  obtain⟨r5,hr5,h⟩:=bS h
  refine oq 178 (ah r5) rfl (cP (afp hr5)) ?_
  obtain⟨e6,he6,h⟩:=bS h
  refine oq 194 (.hp 1 0 [] 4 (0+Int.toNat x3.1) 0) rfl (al rfl rfl rfl (d7 (f:=ah) (xs:=x3.2) rfl rfl rfl he6)) ?_
  refine o0 210 rfl rfl (fZ rfl rfl (eX (path:=[]) (pl:=true) (e':=ah r5) (es2':=(dM x3.2 x3.1 r5).map ah) rfl (eb rfl) rfl rfl rfl aQ (dD (f:=ah) (xs:=x3.2) he6) rfl rfl rfl (i9 (f:=ah) (xs:=x3.2) (y:=r5)) ee 0 rfl)) ?_
  try rw[←io (f:=ah) (xs:=x3.2) (i:=x3.1) (z:=r5)]
  refine cq 7 [4] [I (aj (x3.1+1))] 258 ?_
  refine dC ?_
  exact rf [0,3,4] [1] (ih _ _ h hr hn :)
 ·refine aq 1 ?_
  exact rf [3] [1] (hn _ (ak h) :) (hk:=hK)
theorem Zq (a_1:List Duty)(r:(List Duty))(h:CQ a_1=some r):bq Nq Tryz.f57 [false] 0 (FR a_1) (FS r):=by
 show Run _ _ (U8 a_1 r) [.code U9] _
 refine rI 23 [(0,.isl false (a_1.map ah))] [] 1 ?_
 unfold CQ at h
 refine cq 7 [5] [.isl false (a_1.map ah)] 33 ?_
 refine oq 49 (I (len a_1)) rfl (bA rfl rfl rfl (bR rfl)) ?_
 obtain⟨m2,hm2,h⟩:=bS h
 refine oq 65 (.hs 49 0 [] 4 0 (m2.map ah).length) rfl (lB rfl rfl (Jg (f:=ah) rfl rfl rfl (by decide) hm2 rfl)) ?_
 refine cq 8 [3,4] [.hs 49 0 [] 4 0 (m2.map ah).length,I (0)] 97 ?_
 obtain⟨y7,hy7,hy71,hy72⟩:=bJ h
 refine bV rfl ?_
 refine rf [0,3,4] [49] (PR a_1 rfl (0,m2) _ hy7 (fun r' e st hq=>by rw[hy71 r' e] at hq;exact hq) fun u7 hu=>?_)
 replace h:=hy72 u7 hu
 refine cq 5 [2] [.hs 1 0 [] 4 0 (u7.map ah).length] 34 ?_
 obtain rfl:=sI h
 exact ci rfl ⟨_,fin (vs:=[.hs 1 0 [] 4 0 (u7.map ah).length]) rfl (fU (fC rfl (cZ rfl rfl)) eg) rfl (dh fa),eW⟩
theorem Va {G:bZ}:bW G 57 CR:=gT 1 0 (aO U7 bv) ca Tryz.func57 (fun a r h=>Zq a r h)
def FT:(List Int)→List V:=oA (fP I)
def FU (r:(List Int)):V×List V:=(.usl 1 (r.map I),[])
noncomputable def CT :=bf [false] FT FU fun x=>CS x
theorem aft {a_1:List Int}{r}(h:CS a_1=some r):CT.F (FT a_1)=some (FU r):=aL (aM (bC bd)) h
noncomputable def Vc :=aG Tryz.f58
noncomputable def Nr :=b9 []
def Vb (x:(List Int))(r:(List Int)):St→Prop:=QF Nr Tryz.f58 [false] (FT x) (FU r)
theorem PS (a_1:List Int):ct Nr 0 (Vb a_1) (cL (cL (cR (cL (cR (cR Vc)))))) 0 (uz a_1) (fun u=>(sT 22 [(3,.hs 1 0 [] 1 0 (u.map I).length)] [⟨0,1,u.map I⟩] 2)) fun x3=>(sT 22 [(0,.isl false (a_1.map I)),(3,.hs 1 0 [] 1 0 (x3.2.map I).length),(4,I x3.1)] [⟨0,1,x3.2.map I⟩] 2):=ez (Ay a_1) fun {Q K} hK self ih x3 y h hr hn=>by
 unfold nY at h
 refine cq 5 [8,9] [I x3.1,.isl false (a_1.map I)] 34 ?_
 refine oq 50 (I (len a_1)) rfl (bA rfl rfl rfl (bR rfl)) ?_
 refine cq 2 [11] [B (decide (x3.1<(len a_1)))] 66 ?_
 refine sq h ?_ ?_<;>intro h
 ·refine aq 1 ?_
  refine cq 7 [14,15,16,17] [.hs 1 0 [] 1 0 (x3.2.map I).length,I x3.1,.isl false (a_1.map I),I x3.1] 130 ?_
  obtain⟨e4,he4,h⟩:=bS h
  refine oq 146 (.iptr (I e4) 0) rfl (al rfl rfl rfl (aW rfl rfl rfl rfl he4)) ?_
  refine cq 1 [19] [I e4] 162 ?_
  obtain⟨e5,he5,h⟩:=bS h
  refine oq 178 (.hp 1 0 [] 1 (0+Int.toNat x3.1) 0) rfl (al rfl rfl rfl (d7 (f:=I) (xs:=x3.2) rfl rfl rfl he5)) ?_
  refine o0 194 rfl rfl (fZ rfl rfl (eX (path:=[]) (pl:=true) (e':=I e4) (es2':=(dM x3.2 x3.1 e4).map I) rfl (eb rfl) rfl rfl rfl aQ (dD (f:=I) (xs:=x3.2) he5) rfl rfl rfl (i9 (f:=I) (xs:=x3.2) (y:=e4)) ee 0 rfl)) ?_
  try rw[←io (f:=I) (xs:=x3.2) (i:=x3.1) (z:=e4)]
  refine cq 7 [4] [I (aj (x3.1+1))] 242 ?_
  refine dC ?_
  exact rf [0,3,4] [1] (ih _ _ h hr hn :)
 ·refine aq 1 ?_
  exact rf [3] [1] (hn _ (ak h) :) (hk:=hK)
theorem Zr (a_1:List Int)(r:(List Int))(h:CS a_1=some r):bq Nr Tryz.f58 [false] 0 (FT a_1) (FU r):=by
 show Run _ _ (Vb a_1 r) [.code Vc] _
 refine rI 22 [(0,.isl false (a_1.map I))] [] 1 ?_
 unfold CS at h
 refine cq 7 [5] [.isl false (a_1.map I)] 33 ?_
 refine oq 49 (I (len a_1)) rfl (bA rfl rfl rfl (bR rfl)) ?_
 obtain⟨m2,hm2,h⟩:=bS h
 refine oq 65 (.hs 49 0 [] 1 0 (m2.map I).length) rfl (lB rfl rfl (Jg (f:=I) rfl rfl rfl (by decide) hm2 rfl)) ?_
 refine cq 8 [3,4] [.hs 49 0 [] 1 0 (m2.map I).length,I (0)] 97 ?_
 obtain⟨y6,hy6,hy61,hy62⟩:=bJ h
 refine bV rfl ?_
 refine rf [0,3,4] [49] (PS a_1 rfl (0,m2) _ hy6 (fun r' e st hq=>by rw[hy61 r' e] at hq;exact hq) fun u6 hu=>?_)
 replace h:=hy62 u6 hu
 refine cq 5 [2] [.hs 1 0 [] 1 0 (u6.map I).length] 34 ?_
 obtain rfl:=sI h
 exact ci rfl ⟨_,fin (vs:=[.hs 1 0 [] 1 0 (u6.map I).length]) rfl (fU (fC rfl (cZ rfl rfl)) eg) rfl (dh fa),eW⟩
theorem Vd {G:bZ}:bW G 58 CT:=gT 1 0 bv ca Tryz.func58 (fun a r h=>Zr a r h)
def FV:State→List V:=oA bT
def FW (r:State):V×List V:=(.agg [I r.Day,.usl 1 (r.Facts.map str),.usl 4 (r.Duties.map ah),.usl 1 (r.Balances.map I),B r.Over],[])
noncomputable def CU :=bf [false] FV FW fun x=>vU x
theorem xK {a_1:State}{r}(h:vU a_1=some r):CU.F (FV a_1)=some (FW r):=aL (aM cb) h
noncomputable def afv :=aG Tryz.f23
noncomputable def Ve :=b9 [(45,vV),(57,CR),(58,CT)]
def afu (x:State)(r:State):St→Prop:=QF Ve Tryz.f23 [false] (FV x) (FW r)
theorem Zs (a_1:State)(r:State)(h:vU a_1=some r):bq Ve Tryz.f23 [false] 0 (FV a_1) (FW r):=by
 show Run _ _ (afu a_1 r) [.code afv] _
 refine rI 23 [(0,bT a_1)] [] 1 ?_
 unfold vU at h
 refine ck 4 [1,2] [] [1,17] [] [.hp 1 0 [] 5 0 0,.hp 17 0 [] 5 0 0] [some ⟨0,5,[bT a_1]⟩,some ⟨0,5,[.agg [I (0),.isl true [],.isl true [],.isl true [],B false]]⟩] 33 (by kernel_rfl) ?_
 refine fK 17 [.agg [I (0),.usl 1 (([]).map str),.usl 4 (([]).map ah),.usl 1 (([]).map I),B false]] rfl rfl (aJ (gC (aJ (.refl _) (aJ (.nil _) (aJ (.nil _) (aJ (.nil _) (aJ (.refl _) eF)))))) eF) ?_
 refine ck 4 [3] [] [33] [] [.hp 33 0 [] 5 0 0] [some ⟨0,5,[.agg [I (0),.isl true [],.isl true [],.isl true [],B false]]⟩] 49 (by kernel_rfl) ?_
 refine fK 33 [.agg [I (0),.usl 1 (([]).map str),.usl 4 (([]).map ah),.usl 1 (([]).map I),B false]] rfl rfl (aJ (gC (aJ (.refl _) (aJ (.nil _) (aJ (.nil _) (aJ (.nil _) (aJ (.refl _) eF)))))) eF) ?_
 refine ck 12 [8] [] [33] [] [.isl false (a_1.Facts.map str)] [some ⟨1,5,[.agg [I a_1.Day,.usl 1 (([]).map str),.usl 4 (([]).map ah),.usl 1 (([]).map I),B false]]⟩] 145 (by kernel_rfl) ?_
 obtain⟨r2,hr2,h⟩:=bS h
 refine oq 161 (.hs 145 0 [] 1 0 (r2.map str).length) rfl (cP (Vg hr2)) ?_
 refine cq 1 [10] [.hp 33 0 [] 5 0 1] 177 ?_
 refine o0 193 rfl rfl (fZ rfl rfl (eX (path:=[]) (pl:=false) (e':=.agg [I a_1.Day,.usl 1 (r2.map str),.usl 4 (([]).map ah),.usl 1 (([]).map I),B false]) (es2':=[.agg [I a_1.Day,.usl 1 (r2.map str),.usl 4 (([]).map ah),.usl 1 (([]).map I),B false]]) rfl (fC rfl (cZ rfl rfl)) rfl rfl rfl aQ rfl rfl rfl rfl rfl ee 2 rfl)) ?_
 refine cq 5 [12] [.isl false (a_1.Duties.map ah)] 225 ?_
 obtain⟨r3,hr3,h⟩:=bS h
 refine oq 241 (.hs 225 0 [] 4 0 (r3.map ah).length) rfl (cP (afs hr3)) ?_
 refine cq 1 [14] [.hp 33 0 [] 5 0 2] 257 ?_
 refine o0 273 rfl rfl (fZ rfl rfl (eX (path:=[]) (pl:=false) (e':=.agg [I a_1.Day,.usl 1 (r2.map str),.usl 4 (r3.map ah),.usl 1 (([]).map I),B false]) (es2':=[.agg [I a_1.Day,.usl 1 (r2.map str),.usl 4 (r3.map ah),.usl 1 (([]).map I),B false]]) rfl (fC rfl (cZ rfl rfl)) rfl rfl rfl aQ rfl rfl rfl rfl rfl ee 3 rfl)) ?_
 refine cq 5 [16] [.isl false (a_1.Balances.map I)] 305 ?_
 obtain⟨r4,hr4,h⟩:=bS h
 refine oq 321 (.hs 305 0 [] 1 0 (r4.map I).length) rfl (cP (aft hr4)) ?_
 refine cq 1 [18] [.hp 33 0 [] 5 0 3] 337 ?_
 refine o0 353 rfl rfl (fZ rfl rfl (eX (path:=[]) (pl:=false) (e':=.agg [I a_1.Day,.usl 1 (r2.map str),.usl 4 (r3.map ah),.usl 1 (r4.map I),B false]) (es2':=[.agg [I a_1.Day,.usl 1 (r2.map str),.usl 4 (r3.map ah),.usl 1 (r4.map I),B false]]) rfl (fC rfl (cZ rfl rfl)) rfl rfl rfl aQ rfl rfl rfl rfl rfl ee 4 rfl)) ?_
 refine ck 11 [22] [] [33] [] [.agg [I a_1.Day,.hs 33 4 [(0,1)] 1 0 (r2.map str).length,.hs 33 4 [(0,2)] 4 0 (r3.map ah).length,.hs 33 4 [(0,3)] 1 0 (r4.map I).length,B a_1.Over]] [some ⟨4,5,[.agg [I a_1.Day,.usl 1 (r2.map str),.usl 4 (r3.map ah),.usl 1 (r4.map I),B a_1.Over]]⟩] 433 (by kernel_rfl) ?_
 refine o0 449 rfl rfl (fZ rfl rfl (eX (path:=[]) (pl:=false) (e':=.agg [I a_1.Day,.usl 1 (r2.map str),.usl 4 (r3.map ah),.usl 1 (r4.map I),B a_1.Over]) (es2':=[.agg [I a_1.Day,.usl 1 (r2.map str),.usl 4 (r3.map ah),.usl 1 (r4.map I),B a_1.Over]]) rfl (mW (cg (cO rfl) (cg (gj (path:=[(0,1)]) rfl rfl (f8 rfl rfl aQ) rfl (ky (path:=[]) (i:=0) (k:=1) (e':=.agg [I a_1.Day,.dead,.usl 4 (r3.map ah),.usl 1 (r4.map I),B a_1.Over]) (es2':=[.agg [I a_1.Day,.dead,.usl 4 (r3.map ah),.usl 1 (r4.map I),B a_1.Over]]) aQ rfl rfl rfl ee)) (cg (gj (path:=[(0,2)]) rfl rfl (f8 rfl rfl aQ) rfl (ky (path:=[]) (i:=0) (k:=2) (e':=.agg [I a_1.Day,.dead,.dead,.usl 1 (r4.map I),B a_1.Over]) (es2':=[.agg [I a_1.Day,.dead,.dead,.usl 1 (r4.map I),B a_1.Over]]) aQ rfl rfl rfl ee)) (cg (gj (path:=[(0,3)]) rfl rfl (f8 rfl rfl aQ) rfl (ky (path:=[]) (i:=0) (k:=3) (e':=.agg [I a_1.Day,.dead,.dead,.dead,B a_1.Over]) (es2':=[.agg [I a_1.Day,.dead,.dead,.dead,B a_1.Over]]) aQ rfl rfl rfl ee)) (cg (cO rfl) mX)))))) rfl rfl rfl aQ rfl rfl rfl rfl rfl ee 2 rfl)) ?_
 refine aq 1 ?_
 obtain rfl:=sI h
 exact ci rfl ⟨_,fin (vs:=[.agg [I a_1.Day,.hs 17 2 [(0,1)] 1 0 (r2.map str).length,.hs 17 2 [(0,2)] 4 0 (r3.map ah).length,.hs 17 2 [(0,3)] 1 0 (r4.map I).length,B a_1.Over]]) (KP (se rfl rfl rfl) KQ) (fU (mW (cg (cO rfl) (cg (gj (path:=[(0,1)]) rfl rfl (f8 rfl rfl aQ) rfl (ky (path:=[]) (i:=0) (k:=1) (e':=.agg [I a_1.Day,.dead,.usl 4 (r3.map ah),.usl 1 (r4.map I),B a_1.Over]) (es2':=[.agg [I a_1.Day,.dead,.usl 4 (r3.map ah),.usl 1 (r4.map I),B a_1.Over]]) aQ rfl rfl rfl ee)) (cg (gj (path:=[(0,2)]) rfl rfl (f8 rfl rfl aQ) rfl (ky (path:=[]) (i:=0) (k:=2) (e':=.agg [I a_1.Day,.dead,.dead,.usl 1 (r4.map I),B a_1.Over]) (es2':=[.agg [I a_1.Day,.dead,.dead,.usl 1 (r4.map I),B a_1.Over]]) aQ rfl rfl rfl ee)) (cg (gj (path:=[(0,3)]) rfl rfl (f8 rfl rfl aQ) rfl (ky (path:=[]) (i:=0) (k:=3) (e':=.agg [I a_1.Day,.dead,.dead,.dead,B a_1.Over]) (es2':=[.agg [I a_1.Day,.dead,.dead,.dead,B a_1.Over]]) aQ rfl rfl rfl ee)) (cg (cO rfl) mX)))))) eg) rfl (dh fa),eW⟩
theorem Vf {G:bZ}:bW G 23 CU:=gT 1 0 (aO K2 (aO Va (aO Vd bv))) ca Tryz.func23 (fun a r h=>Zs a r h)
def qy:(Int×Int×Int)→List V:=cA I (cA I (oA I))
def qz (r:Bool):V×List V:=(B r,[])
noncomputable def f9 :=bf [false,false,false] qy qz fun x=>eJ x.1 x.2.1 x.2.2
theorem eK {x_1:Int}{a_2:Int}{b_3:Int}{r}(h:eJ x_1 a_2 b_3=some r):f9.F (qy (x_1,a_2,b_3))=some (qz r):=aL (aH bd (aH bd (aM bd))) h
noncomputable def BM :=aG Tryz.f89
noncomputable def uh :=b9 []
def BL (x:Int×Int×Int)(r:Bool):St→Prop:=QF uh Tryz.f89 [false,false,false] (qy x) (qz r)
theorem L0 (x_1:Int)(a_2:Int)(b_3:Int)(r:Bool)(h:eJ x_1 a_2 b_3=some r):bq uh Tryz.f89 [false,false,false] 0 (qy (x_1,a_2,b_3)) (qz r):=by
 show Run _ _ (BL (x_1,a_2,b_3) r) [.code BM] _
 refine rI 15 [(0,I x_1),(1,I a_2),(2,I b_3)] [] 1 ?_
 unfold eJ at h
 refine cq 10 [10] [B (decide (x_1≥a_2))] 81 ?_
 obtain⟨u4,hu4,h⟩:=lJ h
 have j4:Run uh 0 (BL (x_1,a_2,b_3) r) (.code (cR (cR BM))::[]) (sT 15 [(6,B u4)] [] 1):=by
  obtain rfl:=sI h
  exact rP [B u4]
 replace h:=hu4
 clear hu4
 refine sp 10 h rfl ?_ ?_<;>intro h
 ·refine cq 6 [6] [B (decide (x_1≤b_3))] 161 ?_
  subst h
  exact rf [6] [] (j4 :)
 ·refine cq 6 [6] [B false] 161 ?_
  subst h
  exact rf [6] [] (j4 :)
theorem gF {G:bZ}:bW G 89 f9:=gT 3 0 bv ca Tryz.func89 (fun a r h=>L0 a.1 a.2.1 a.2.2 r h)
def HE:Int→List V:=oA (V.int .u8)
def HF (r:Bool):V×List V:=(B r,[])
noncomputable def DH :=bf [false] HE HF fun x=>ym x
theorem agl {b_1:Int}{r}(h:ym b_1=some r):DH.F (HE b_1)=some (HF r):=aL (aM (PD (k:=.u8))) h
noncomputable def yp :=aG Tryz.f128
noncomputable def uX :=b9 []
def yo (x:Int)(r:Bool):St→Prop:=QF uX Tryz.f128 [false] (HE x) (HF r)
theorem aaf (b_1:Int)(r:Bool)(h:ym b_1=some r):bq uX Tryz.f128 [false] 0 (HE b_1) (HF r):=by
 show Run _ _ (yo b_1 r) [.code yp] _
 refine rI 17 [(0,.int .u8 b_1)] [] 1 ?_
 unfold ym at h
 refine cq 9 [5] [B (decide (b_1≥97))] 65 ?_
 obtain⟨u2,hu2,h⟩:=lJ h
 have j2:Run uX 0 (yo b_1 r) (.code (cR (cR yp))::[]) (sT 17 [(2,B u2)] [] 1):=by
  obtain rfl:=sI h
  exact rP [B u2]
 replace h:=hu2
 clear hu2
 refine sp 5 h rfl ?_ ?_<;>intro h
 ·refine cq 4 [9] [B (decide (b_1≤122))] 129 ?_
  obtain⟨u3,hu3,h⟩:=lJ h
  have j3:Run uX 0 (yo b_1 r) (.code (cR (cR yp))::[]) (sT 17 [(2,B u3)] [] 1):=by
   subst h
   exact rf [2] [] (j2 :)
  replace h:=hu3
  clear hu3
  refine sp 9 h rfl ?_ ?_<;>intro h
  ·refine cq 9 [2] [B true] 257 ?_
   subst h
   exact rf [2] [] (j3 :)
  ·refine cq 3 [12] [B (decide (b_1≥48))] 177 ?_
   obtain⟨u4,hu4,h⟩:=lJ h
   have j4:Run uX 0 (yo b_1 r) (.code (cR (cR yp))::[]) (sT 17 [(2,B u4)] [] 1):=by
    subst h
    exact rf [2] [] (j3 :)
   replace h:=hu4
   clear hu4
   refine sp 12 h rfl ?_ ?_<;>intro h
   ·refine cq 6 [2] [B (decide (b_1≤57))] 257 ?_
    subst h
    exact rf [2] [] (j4 :)
   ·refine cq 6 [2] [B false] 257 ?_
    subst h
    exact rf [2] [] (j4 :)
 ·refine cq 7 [9,12] [B false,B (decide (b_1≥48))] 177 ?_
  obtain⟨u5,hu5,h⟩:=lJ h
  have j5:Run uX 0 (yo b_1 r) (.code (cR (cR yp))::[]) (sT 17 [(2,B u5)] [] 1):=by
   subst h
   exact rf [2] [] (j2 :)
  replace h:=hu5
  clear hu5
  refine sp 12 h rfl ?_ ?_<;>intro h
  ·refine cq 6 [2] [B (decide (b_1≤57))] 257 ?_
   subst h
   exact rf [2] [] (j5 :)
  ·refine cq 6 [2] [B false] 257 ?_
   subst h
   exact rf [2] [] (j5 :)
theorem WI {G:bZ}:bW G 128 DH:=gT 1 0 bv ca Tryz.func128 (fun a r h=>aaf a r h)
def Hy:ac→List V:=oA str
def Hz (r:Bool):V×List V:=(B r,[])
noncomputable def nA :=bf [false] Hy Hz fun x=>qZ x
theorem qE {s_1:ac}{r}(h:qZ s_1=some r):nA.F (Hy s_1)=some (Hz r):=aL (aM bx) h
noncomputable def qF :=aG Tryz.f80
noncomputable abbrev ot :=cR (cR (cR (cR qF)))
noncomputable abbrev ou :=cR (cL (cR (cL (cR (cR (cR qF))))))
noncomputable def ki :=b9 [(89,f9),(128,DH)]
def iU (x:ac)(r:Bool):St→Prop:=QF ki Tryz.f80 [false] (Hy x) (Hz r)
theorem Qn (s_1:ac):ct ki 0 (iU s_1) (cL (cL (cR (cL (cR (cR qF)))))) 0 (uT s_1) (fun u=>(sT 40 [(0,str s_1)] [] 1)) fun x4=>(sT 40 [(0,str s_1),(3,I x4)] [] 1):=ez (Bb s_1) fun {Q K} hK self ih x4 y h hr hn=>by
 unfold ov at h
 refine cq 8 [21] [B (decide (x4<(len s_1)))] 65 ?_
 refine sq h ?_ ?_<;>intro h
 ·refine aq 1 ?_
  refine cq 6 [24,25] [str s_1,I x4] 97 ?_
  obtain⟨c5,hc5,h⟩:=bS h
  refine oq 113 (.int .u8 (c5.toNat:Int)) rfl (oK rfl rfl (tw rfl rfl hc5)) ?_
  obtain⟨r6,hr6,h⟩:=bS h
  refine oq 129 (B r6) rfl (cP (agl hr6)) ?_
  refine cq 2 [28] [B (!r6)] 145 ?_
  refine sq h ?_ ?_<;>intro h
  ·refine cq 4 [2] [B false] 161 ?_
   exact ci rfl (hr _ (ak h) _ (qp [B false]))
  ·refine aq 1 ?_
   refine cq 6 [3] [I (aj (x4+1))] 193 ?_
   refine dC ?_
   exact rf [0,3] [] (ih _ _ h hr hn :)
 ·refine aq 1 ?_
  exact rf [0] [] (hn _ (ak h) :) (hk:=hK)
theorem aab (s_1:ac)(r:Bool)(h:qZ s_1=some r):bq ki Tryz.f80 [false] 0 (Hy s_1) (Hz r):=by
 show Run _ _ (iU s_1 r) [.code qF] _
 refine rI 40 [(0,str s_1)] [] 1 ?_
 unfold qZ at h
 refine cq 9 [5] [I (len s_1)] 49 ?_
 obtain⟨r2,hr2,h⟩:=bS h
 refine oq 65 (B r2) rfl (cP (eK hr2)) ?_
 refine cq 2 [8] [B (!r2)] 97 ?_
 obtain⟨y3,hy3,hy31,hy32⟩:=bJ h
 have j3:∀u3,y3=.inr u3→Run ki 0 (iU s_1 r) (.code (cR (cL (cR qF)))::.code (cR (cR qF))::[]) (sT 40 [(0,str s_1),(17,B u3)] [] 1):=by
  intro u3 hu
  replace h:=hy32 u3 hu
  refine sq h ?_ ?_<;>intro h
  ·refine cq 4 [2] [B false] 17 ?_
   obtain rfl:=sI h
   exact rP [B false]
  ·refine aq 1 ?_
   refine cq 6 [3] [I (0)] 17 ?_
   obtain⟨y7,hy7,hy71,hy72⟩:=bJ h
   refine bV rfl ?_
   refine rf [0,3] [] (Qn s_1 rfl 0 _ hy7 (fun r' e st hq=>by rw[hy71 r' e] at hq;exact hq) fun u7 hu=>?_)
   replace h:=hy72 u7 hu
   refine cq 12 [29,30] [str s_1,B (s_1==([116,114,117,101]:ac))] 49 ?_
   obtain⟨u8,hu8,h⟩:=lJ h
   have j8:Run ki 0 (iU s_1 r) (.code ou::.blk 2::.code ot::[]) (sT 40 [(30,B u8)] [] 1):=by
    refine sq h ?_ ?_<;>intro h
    ·refine cq 4 [2] [B false] 17 ?_
     obtain rfl:=sI h
     exact rP [B false]
    ·refine aq 1 ?_
     refine cq 5 [2] [B true] 17 ?_
     obtain rfl:=sI h
     exact rP [B true]
   replace h:=hu8
   clear hu8
   refine tG h rfl rfl ?_ ?_<;>intro h
   ·refine aq 1 ?_
    subst h
    exact rf [30] [] (j8 :)
   ·refine cq 5 [30] [B (s_1==([102,114,111,109]:ac))] 81 ?_
    obtain⟨u9,hu9,h⟩:=lJ h
    have j9:Run ki 0 (iU s_1 r) (.code ou::.blk 2::.code ot::[]) (sT 40 [(30,B u9)] [] 1):=by
     subst h
     exact rf [30] [] (j8 :)
    replace h:=hu9
    clear hu9
    refine tG h rfl rfl ?_ ?_<;>intro h
    ·refine aq 1 ?_
     subst h
     exact rf [30] [] (j9 :)
    ·refine cq 5 [30] [B (s_1==([110,111,116]:ac))] 113 ?_
     obtain⟨u10,hu10,h⟩:=lJ h
     have j10:Run ki 0 (iU s_1 r) (.code ou::.blk 2::.code ot::[]) (sT 40 [(30,B u10)] [] 1):=by
      subst h
      exact rf [30] [] (j9 :)
     replace h:=hu10
     clear hu10
     refine tG h rfl rfl ?_ ?_<;>intro h
     ·refine aq 1 ?_
      subst h
      exact rf [30] [] (j10 :)
     ·refine cq 5 [30] [B (s_1==([97,110,100]:ac))] 145 ?_
      obtain⟨u11,hu11,h⟩:=lJ h
      have j11:Run ki 0 (iU s_1 r) (.code ou::.blk 2::.code ot::[]) (sT 40 [(30,B u11)] [] 1):=by
       subst h
       exact rf [30] [] (j10 :)
      replace h:=hu11
      clear hu11
      refine tG h rfl rfl ?_ ?_<;>intro h
      ·refine aq 1 ?_
       subst h
       exact rf [30] [] (j11 :)
      ·refine cq 5 [30] [B (s_1==([111,114]:ac))] 177 ?_
       obtain⟨u12,hu12,h⟩:=lJ h
       have j12:Run ki 0 (iU s_1 r) (.code ou::.blk 2::.code ot::[]) (sT 40 [(30,B u12)] [] 1):=by
        subst h
        exact rf [30] [] (j11 :)
       replace h:=hu12
       clear hu12
       refine tG h rfl rfl ?_ ?_<;>intro h
       ·refine aq 1 ?_
        subst h
        exact rf [30] [] (j12 :)
       ·refine cq 5 [30] [B (s_1==([98,111,116,104]:ac))] 209 ?_
        obtain⟨u13,hu13,h⟩:=lJ h
        have j13:Run ki 0 (iU s_1 r) (.code ou::.blk 2::.code ot::[]) (sT 40 [(30,B u13)] [] 1):=by
         subst h
         exact rf [30] [] (j12 :)
        replace h:=hu13
        clear hu13
        refine tG h rfl rfl ?_ ?_<;>intro h
        ·refine aq 1 ?_
         subst h
         exact rf [30] [] (j13 :)
        ·refine cq 5 [30] [B (s_1==([101,105,116,104,101,114]:ac))] 241 ?_
         obtain⟨u14,hu14,h⟩:=lJ h
         have j14:Run ki 0 (iU s_1 r) (.code ou::.blk 2::.code ot::[]) (sT 40 [(30,B u14)] [] 1):=by
          subst h
          exact rf [30] [] (j13 :)
         replace h:=hu14
         clear hu14
         refine tG h rfl rfl ?_ ?_<;>intro h
         ·refine aq 1 ?_
          subst h
          exact rf [30] [] (j14 :)
         ·refine cq 5 [30] [B (s_1==([105,116]:ac))] 273 ?_
          obtain⟨u15,hu15,h⟩:=lJ h
          have j15:Run ki 0 (iU s_1 r) (.code ou::.blk 2::.code ot::[]) (sT 40 [(30,B u15)] [] 1):=by
           subst h
           exact rf [30] [] (j14 :)
          replace h:=hu15
          clear hu15
          refine tG h rfl rfl ?_ ?_<;>intro h
          ·refine aq 1 ?_
           subst h
           exact rf [30] [] (j15 :)
          ·refine cq 4 [30] [B (s_1==([105,110]:ac))] 305 ?_
           subst h
           exact rf [30] [] (j15 :)
 have r3:∀r',y3=.inl r'→∀st,iU s_1 r' st→(iU s_1 r) st:=fun r' e st hq=>by rw[hy31 r' e] at hq;exact hq
 replace h:=hy3
 refine sp 8 h rfl ?_ ?_<;>intro h
 ·refine cq 10 [17] [B true] 241 ?_
  exact rf [0,17] [] (j3 _ (ak h) :)
 ·refine cq 1 [9] [str s_1] 113 ?_
  obtain⟨c16,hc16,h⟩:=bS h
  refine oy 129 (.int .u8 (c16.toNat:Int)) rfl (oK rfl rfl (tw rfl rfl hc16)) ?_
  refine cq 3 [13] [B (decide ((c16.toNat:Int)<97))] 177 ?_
  obtain⟨y17,hy17,hy171,hy172⟩:=bL h
  have j17:∀u17,y17=.inr u17→Run ki 0 (iU s_1 r) (.code (cR (cL (cR qF)))::.code (cR (cR qF))::[]) (sT 40 [(0,str s_1),(17,B u17)] [] 1):=by
   intro u17 hu
   replace h:=hy172 u17 hu
   exact rf [0,17] [] (j3 _ (ak h) :)
  have r17:∀r',y17=.inl r'→∀st,iU s_1 r' st→(iU s_1 r) st:=fun r' e st hq=>r3 r' (hy171 r' e) st hq
  replace h:=hy17
  refine sp 13 h rfl ?_ ?_<;>intro h
  ·refine cq 5 [17] [B true] 241 ?_
   exact rf [0,17] [] (j17 _ (ak h) :)
  ·refine cq 1 [14] [str s_1] 193 ?_
   obtain⟨c18,hc18,h⟩:=bS h
   refine oy 209 (.int .u8 (c18.toNat:Int)) rfl (oK rfl rfl (tw rfl rfl hc18)) ?_
   refine cq 3 [17] [B (decide ((c18.toNat:Int)>122))] 241 ?_
   exact rf [0,17] [] (j17 _ (ak h) :)
theorem qG {G:bZ}:bW G 80 nA:=gT 1 0 (aO gF (aO WI bv)) ca Tryz.func80 (fun a r h=>aab a r h)
def Hs:((List ac)×ac)→List V:=cA (fP str) (oA str)
def Hu (r:Bool):V×List V:=(B r,[])
noncomputable def sk :=bf [false,false] Hs Hu fun x=>qY x.1 x.2
theorem Ht {ay:List ac}{fx:ac}{r}(h:qY ay fx=some r):sk.F (Hs (ay,fx))=some (Hu r):=aL (aH (bC bx) (aM bx)) h
noncomputable def WB :=aG Tryz.f123
noncomputable def NS :=b9 []
def WA (x:(List ac)×ac)(r:Bool):St→Prop:=QF NS Tryz.f123 [false,false] (Hs x) (Hu r)
theorem Qm (ay:List ac)(fx:ac):ct NS 0 (WA (ay,fx)) (cL (cL (cR (cL (cR WB))))) 0 (rZ ay fx) (fun u=>(sT 18 [] [] 1)) fun x3=>(sT 18 [(0,.isl false (ay.map str)),(1,str fx),(5,I x3)] [] 1):=ez (Ba ay fx) fun {Q K} hK self ih x3 y h hr hn=>by
 unfold l5 at h
 refine cq 5 [6,7] [I x3,.isl false (ay.map str)] 33 ?_
 refine oq 49 (I (len ay)) rfl (bA rfl rfl rfl (bR rfl)) ?_
 refine cq 2 [9] [B (decide (x3<(len ay)))] 65 ?_
 refine sq h ?_ ?_<;>intro h
 ·refine aq 1 ?_
  refine cq 6 [12,13] [.isl false (ay.map str),I x3] 97 ?_
  obtain⟨e4,he4,h⟩:=bS h
  refine oq 113 (.iptr (str e4) 0) rfl (al rfl rfl rfl (aW rfl rfl rfl rfl he4)) ?_
  refine cq 4 [17] [B (e4==fx)] 161 ?_
  refine sq h ?_ ?_<;>intro h
  ·refine cq 4 [4] [B true] 177 ?_
   exact ci rfl (hr _ (ak h) _ (qp [B true]))
  ·refine aq 1 ?_
   refine cq 6 [5] [I (aj (x3+1))] 209 ?_
   refine dC ?_
   exact rf [0,1,5] [] (ih _ _ h hr hn :)
 ·refine aq 1 ?_
  exact rf [] [] (hn _ (ak h) :) (hk:=hK)
theorem Z8 (ay:List ac)(fx:ac)(r:Bool)(h:qY ay fx=some r):bq NS Tryz.f123 [false,false] 0 (Hs (ay,fx)) (Hu r):=by
 show Run _ _ (WA (ay,fx) r) [.code WB] _
 refine rI 18 [(0,.isl false (ay.map str)),(1,str fx)] [] 1 ?_
 unfold qY at h
 refine cq 10 [5] [I (0)] 33 ?_
 obtain⟨y5,hy5,hy51,hy52⟩:=bJ h
 refine bV rfl ?_
 refine rf [0,1,5] [] (Qm ay fx rfl 0 _ hy5 (fun r' e st hq=>by rw[hy51 r' e] at hq;exact hq) fun u5 hu=>?_)
 replace h:=hy52 u5 hu
 refine cq 4 [4] [B false] 17 ?_
 obtain rfl:=sI h
 exact rP [B false]
theorem yb {G:bZ}:bW G 123 sk:=gT 2 0 bv ca Tryz.func123 (fun a r h=>Z8 a.1 a.2 r h)
def HU:Contract→List V:=oA aV
def HW (r:Bool):V×List V:=(B r,[])
noncomputable def DQ :=bf [false] HU HW fun x=>yx x
theorem agp {c_1:Contract}{r}(h:yx c_1=some r):DQ.F (HU c_1)=some (HW r):=aL (aM bc) h
noncomputable def yy :=aG Tryz.f90
noncomputable def HV :=b9 [(80,nA),(123,sk),(89,f9)]
def N3 (x:Contract)(r:Bool):St→Prop:=QF HV Tryz.f90 [false] (HU x) (HW r)
theorem Qv (c_1:Contract):ct HV 0 (N3 c_1) (cL (cL (cR (cL (cR yy))))) 0 (vd c_1) (fun u=>(sT 34 [(1,.hp 1 0 [] 2 0 0)] [⟨0,2,[aa c_1]⟩] 2)) fun x2=>(sT 34 [(1,.hp 1 0 [] 2 0 0),(3,I x2)] [⟨0,2,[aa c_1]⟩] 2):=ez (Bj c_1) fun {Q K} hK self ih x2 y h hr hn=>by
 unfold mc at h
 refine cq 6 [4,6] [I x2,.isl false (c_1.Parties.map str)] 50 ?_
 refine oq 66 (I (len c_1.Parties)) rfl (bA rfl rfl rfl (bR rfl)) ?_
 refine cq 2 [8] [B (decide (x2<(len c_1.Parties)))] 82 ?_
 refine sq h ?_ ?_<;>intro h
 ·refine aq 1 ?_
  refine aq 3 ?_
  refine dV [0,1,0,7,15,31,63,127,255,511,255,2047,255,4351,255,28927,61695,131071,262143] rfl (by decide +kernel) ?_
  refine dq [1] [] (.hp 1 0 [] 2 0 0) rfl (an rfl rfl rfl) ?_
  refine dq [1] [] (.isl false (c_1.Parties.map str)) rfl (aU rfl rfl) ?_
  refine dk 1 [13] [I x2] ?_
  obtain⟨e3,he3,h⟩:=bS h
  refine dq [] [] (.iptr (str e3) 0) rfl (al rfl rfl rfl (aW rfl rfl rfl rfl he3)) ?_
  refine dq [] [] (str e3) rfl (aU rfl rfl) ?_
  obtain⟨r4,hr4,h⟩:=bS h
  refine dq [] [] (B r4) rfl (cP (qE hr4)) ?_ (dK rfl rfl rfl rfl (aR (bo rfl) cS) (qE hr4) (.inr rfl) rfl)
  refine dk 2 [18,17] [B (!r4),B (!r4)] ?_
  obtain⟨y5,hy5,hy51,hy52⟩:=bL h
  have j5:∀u5,y5=.inr u5→Run HV 0 Q (.code (cR (cL (cL (cR (cL (cL (cR (cL (cR yy)))))))))::.blk 1::.code (cR (cR (cL (cL (cR (cL (cR yy)))))))::.lp (cL (cL (cR (cL (cR yy)))))::.blk 0::K) (sT 34 [(1,.hp 1 0 [] 2 0 0),(3,I x2),(29,B u5)] [⟨0,2,[aa c_1]⟩] 2):=by
   intro u5 hu
   replace h:=hy52 u5 hu
   refine sq h ?_ ?_<;>intro h
   ·refine cq 4 [2] [B false] 18 ?_
    exact ci rfl (hr _ (ak h) _ (qp [B false]))
   ·refine aq 1 ?_
    refine cq 6 [3] [I (aj (x2+1))] 50 ?_
    refine dC ?_
    exact rf [1,3] [1] (ih _ _ h hr hn :)
  have r5:∀r',y5=.inl r'→∀st,N3 c_1 r' st→Q st:=fun r' e st hq=>hr r' (hy51 r' e) st hq
  replace h:=hy5
  refine sp 18 h rfl ?_ ?_<;>intro h
  ·refine dk 11 [29,28,27,26,25,24,23,22,21,20,19] [B true,.und,.und,.und,.und,.und,.und,.und,.und,.und,.und] ?_
   refine de 386 rfl rfl ?_
   exact rf [1,3,29] [1] (j5 _ (ak h) :)
  ·refine dy [1] [] (.hp 1 0 [] 2 0 0) rfl (an rfl rfl rfl) ?_
   refine dy [1] [] (.isl false (c_1.Parties.map str)) rfl (aU rfl rfl) ?_
   refine dk 1 [21] [I x2] ?_
   obtain⟨s6,hs6,h⟩:=bS h
   refine dy [] [] (.isl false (s6.map str)) rfl (iK rfl rfl rfl rfl (zr rfl rfl (fun y=>(kL y).1) rfl rfl hs6)) ?_
   refine dy [1] [] (.hp 1 0 [] 2 0 0) rfl (an rfl rfl rfl) ?_
   refine dy [1] [] (.isl false (c_1.Parties.map str)) rfl (aU rfl rfl) ?_
   refine dk 1 [25] [I x2] ?_
   obtain⟨e7,he7,h⟩:=bS h
   refine dy [] [] (.iptr (str e7) 0) rfl (al rfl rfl rfl (aW rfl rfl rfl rfl he7)) ?_
   refine dy [] [] (str e7) rfl (aU rfl rfl) ?_
   obtain⟨r8,hr8,h⟩:=bS h
   refine dy [] [] (B r8) rfl (cP (Ht hr8)) ?_ (dK rfl rfl rfl rfl (aR (bo rfl) (aR (bo rfl) cS)) (Ht hr8) (.inr rfl) rfl)
   refine dk 1 [29] [B r8] ?_
   refine de 386 rfl rfl ?_
   exact rf [1,3,29] [1] (j5 _ (ak h) :)
 ·refine aq 1 ?_
  exact rf [1] [1] (hn _ (ak h) :) (hk:=hK)
theorem aan (c_1:Contract)(r:Bool)(h:yx c_1=some r):bq HV Tryz.f90 [false] 0 (HU c_1) (HW r):=by
 show Run _ _ (N3 c_1 r) [.code yy] _
 refine rI 34 [(0,aa c_1)] [] 1 ?_
 unfold yx at h
 refine ck 11 [1,3] [] [1] [] [.hp 1 0 [] 2 0 0,I (0)] [some ⟨0,2,[aa c_1]⟩] 49 (by kernel_rfl) ?_
 obtain⟨y9,hy9,hy91,hy92⟩:=bJ h
 refine bV rfl ?_
 refine rf [1,3] [1] (Qv c_1 rfl 0 _ hy9 (fun r' e st hq=>by rw[hy91 r' e] at hq;exact hq) fun u9 hu=>?_)
 replace h:=hy92 u9 hu
 refine cq 4 [31] [.isl false (c_1.Parties.map str)] 34 ?_
 refine oq 50 (I (len c_1.Parties)) rfl (bA rfl rfl rfl (bR rfl)) ?_
 obtain⟨r10,hr10,h⟩:=bS h
 refine oq 66 (B r10) rfl (cP (eK hr10)) ?_
 refine cq 2 [2] [B r10] 82 ?_
 obtain rfl:=sI h
 exact rP [B r10]
theorem WX {G:bZ}:bW G 90 DQ:=gT 1 0 (aO qG (aO yb (aO gF bv))) ca Tryz.func90 (fun a r h=>aan a r h)
def HL:(Contract×ac)→List V:=cA aV (oA str)
def HM (r:Int):V×List V:=(I r,[])
noncomputable def we :=bf [false,false] HL HM fun x=>wd x.1 x.2
theorem N1 {c_1:Contract}{fG:ac}{r}(h:wd c_1 fG=some r):we.F (HL (c_1,fG))=some (HM r):=aL (aH bc (aM bx)) h
noncomputable def WS :=aG Tryz.f91
noncomputable def N0 :=b9 []
def WR (x:Contract×ac)(r:Int):St→Prop:=QF N0 Tryz.f91 [false,false] (HL x) (HM r)
theorem Qs (c_1:Contract)(fG:ac):ct N0 0 (WR (c_1,fG)) (cL (cL (cR (cL (cR WS))))) 0 (vb c_1 fG) (fun u=>(sT 22 [] [] 1)) fun x3=>(sT 22 [(1,str fG),(2,.hp 1 0 [] 2 0 0),(5,I x3)] [⟨0,2,[aa c_1]⟩] 2):=ez (Bg c_1 fG) fun {Q K} hK self ih x3 y h hr hn=>by
 unfold oz at h
 refine cq 6 [6,8] [I x3,.isl false (c_1.Clauses.map ao)] 50 ?_
 refine oq 66 (I (len c_1.Clauses)) rfl (bA rfl rfl rfl (bR rfl)) ?_
 refine cq 2 [10] [B (decide (x3<(len c_1.Clauses)))] 82 ?_
 refine sq h ?_ ?_<;>intro h
 ·refine aq 1 ?_
  refine cq 7 [14,15] [.isl false (c_1.Clauses.map ao),I x3] 130 ?_
  obtain⟨e4,he4,h⟩:=bS h
  refine oq 146 (.iptr (ap e4) 0) rfl (al rfl rfl rfl (aW rfl rfl rfl rfl he4)) ?_
  refine cq 5 [20] [B (e4.Id==fG)] 210 ?_
  refine sq h ?_ ?_<;>intro h
  ·refine cq 5 [4] [I x3] 242 ?_
   exact ci rfl (hr _ (ak h) _ (qp [I x3]))
  ·refine aq 1 ?_
   refine cq 6 [5] [I (aj (x3+1))] 258 ?_
   refine dC ?_
   exact rf [1,2,5] [1] (ih _ _ h hr hn :)
 ·refine aq 1 ?_
  exact rf [] [] (hn _ (ak h) :) (hk:=hK)
theorem aak (c_1:Contract)(fG:ac)(r:Int)(h:wd c_1 fG=some r):bq N0 Tryz.f91 [false,false] 0 (HL (c_1,fG)) (HM r):=by
 show Run _ _ (WR (c_1,fG) r) [.code WS] _
 refine rI 22 [(0,aa c_1),(1,str fG)] [] 1 ?_
 unfold wd at h
 refine ck 11 [2,5] [] [1] [] [.hp 1 0 [] 2 0 0,I (0)] [some ⟨0,2,[aa c_1]⟩] 49 (by kernel_rfl) ?_
 obtain⟨y5,hy5,hy51,hy52⟩:=bJ h
 refine bV rfl ?_
 refine rf [1,2,5] [1] (Qs c_1 fG rfl 0 _ hy5 (fun r' e st hq=>by rw[hy51 r' e] at hq;exact hq) fun u5 hu=>?_)
 replace h:=hy52 u5 hu
 refine cq 4 [4] [I (-1)] 17 ?_
 obtain rfl:=sI h
 exact rP [I (-1)]
theorem K5 {G:bZ}:bW G 91 we:=gT 2 0 bv ca Tryz.func91 (fun a r h=>aak a.1 a.2 r h)
def Hh:Int→List V:=oA I
def Hj (r:Bool):V×List V:=(B r,[])
noncomputable def si :=bf [false] Hh Hj fun x=>sh x
theorem Hi {ix:Int}{r}(h:sh ix=some r):si.F (Hh ix)=some (Hj r):=aL (aM bd) h
noncomputable def agf :=aG Tryz.f76
noncomputable def Wr :=b9 [(89,f9)]
def age (x:Int)(r:Bool):St→Prop:=QF Wr Tryz.f76 [false] (Hh x) (Hj r)
theorem Z1 (ix:Int)(r:Bool)(h:sh ix=some r):bq Wr Tryz.f76 [false] 0 (Hh ix) (Hj r):=by
 show Run _ _ (age ix r) [.code agf] _
 refine rI 5 [(0,I ix)] [] 1 ?_
 unfold sh at h
 refine cq 7 [3] [I ix] 33 ?_
 obtain⟨r2,hr2,h⟩:=bS h
 refine oq 49 (B r2) rfl (cP (eK hr2)) ?_
 refine cq 2 [2] [B r2] 65 ?_
 obtain rfl:=sI h
 exact rP [B r2]
theorem xW {G:bZ}:bW G 76 si:=gT 1 0 (aO gF bv) ca Tryz.func76 (fun a r h=>Z1 a r h)
def Hn:Condition→List V:=oA bD
def Ho (r:Bool):V×List V:=(B r,[])
noncomputable def DB :=bf [false] Hn Ho fun x=>DA x
theorem agi {c_1:Condition}{r}(h:DA c_1=some r):DB.F (Hn c_1)=some (Ho r):=aL (aM dt) h
noncomputable def oY :=aG Tryz.f190
noncomputable abbrev kh :=cR (cR (cR oY))
noncomputable abbrev Q2 :=cR (cL (cR (cR (cR (cL (cR (cL (cR (cR oY)))))))))
noncomputable abbrev Q3 :=cR (cL (cR (cR (cR (cR (cR (cL (cR (cL (cR (cR oY)))))))))))
noncomputable abbrev Q4 :=cR (cL (cR (cR (cR (cR (cR (cR (cR (cL (cR (cL (cR (cR oY)))))))))))))
noncomputable abbrev Q5 :=cR (cL (cR (cR (cR (cR (cR (cR (cR (cR (cR (cL (cR (cL (cR (cR oY)))))))))))))))
noncomputable def kg :=b9 [(80,nA),(76,si)]
def hY (x:Condition)(r:Bool):St→Prop:=QF kg Tryz.f190 [false] (Hn x) (Ho r)
theorem Z4 (c_1:Condition)(r:Bool)(h:DA c_1=some r):bq kg Tryz.f190 [false] 0 (Hn c_1) (Ho r):=by
 show Run _ _ (hY c_1 r) [.code oY] _
 refine rI 80 [(0,ai c_1)] [] 1 ?_
 unfold DA at h
 refine ck 9 [1,5] [] [1] [] [.hp 1 0 [] 4 0 0,.isl false (c_1.Parts.map aB)] [some ⟨0,4,[ai c_1]⟩] 65 (by kernel_rfl) ?_
 refine oq 81 (I (len c_1.Parts)) rfl (bA rfl rfl rfl (bR rfl)) ?_
 refine cq 14 [3,8,9] [I (len c_1.Parts),I c_1.Op,B (c_1.Op==1)] 161 ?_
 refine sq h ?_ ?_<;>intro h
 ·refine cq 5 [13] [B ((len c_1.Parts)==0)] 209 ?_
  obtain⟨u2,hu2,h⟩:=lJ h
  have j2:Run kg 0 (hY c_1 r) (.code (cR (cL (cR (cL (cR (cL (cR (cR oY))))))))::.blk 0::.code kh::[]) (sT 80 [(2,B u2)] [] 1):=by
   obtain rfl:=sI h
   exact rP [B u2]
  replace h:=hu2
  clear hu2
  refine sp 13 h rfl ?_ ?_<;>intro h
  ·refine cq 5 [18] [B (c_1.Name==([]:ac))] 289 ?_
   obtain⟨u3,hu3,h⟩:=lJ h
   have j3:Run kg 0 (hY c_1 r) (.code (cR (cL (cR (cL (cR (cL (cR (cR oY))))))))::.blk 0::.code kh::[]) (sT 80 [(2,B u3)] [] 1):=by
    subst h
    exact rf [2] [] (j2 :)
   replace h:=hu3
   clear hu3
   refine sp 18 h rfl ?_ ?_<;>intro h
   ·refine cq 6 [2] [B (c_1.Day==0)] 369 ?_
    subst h
    exact rf [2] [] (j3 :)
   ·refine cq 6 [2] [B false] 369 ?_
    subst h
    exact rf [2] [] (j3 :)
  ·refine cq 11 [2] [B false] 369 ?_
   subst h
   exact rf [2] [] (j2 :)
 ·refine cq 5 [23] [B (c_1.Op==2)] 193 ?_
  refine sq h ?_ ?_<;>intro h
  ·refine cq 5 [27] [B ((len c_1.Parts)==0)] 241 ?_
   obtain⟨y4,hy4,hy41,hy42⟩:=bJ h
   have j4:∀u4,y4=.inr u4→Run kg 0 (hY c_1 r) (.code Q2::.blk 0::.code kh::[]) (sT 80 [(2,B u4)] [] 1):=by
    intro u4 hu
    replace h:=hy42 u4 hu
    obtain rfl:=sI h
    exact rP [B u4]
   have r4:∀r',y4=.inl r'→∀st,hY c_1 r' st→(hY c_1 r) st:=fun r' e st hq=>by rw[hy41 r' e] at hq;exact hq
   replace h:=hy4
   refine sp 27 h rfl ?_ ?_<;>intro h
   ·refine cq 2 [29] [str c_1.Name] 273 ?_
    obtain⟨r5,hr5,h⟩:=bS h
    refine oy 289 (B r5) rfl (cP (qE hr5)) ?_
    refine cq 2 [32] [B r5] 321 ?_
    obtain⟨u6,hu6,h⟩:=lJ h
    have j6:Run kg 0 (hY c_1 r) (.code Q2::.blk 0::.code kh::[]) (sT 80 [(2,B u6)] [] 1):=by
     exact rf [2] [] (j4 _ (ak h) :)
    replace h:=hu6
    clear hu6
    refine sp 32 h rfl ?_ ?_<;>intro h
    ·refine cq 6 [2] [B (c_1.Day==0)] 401 ?_
     subst h
     exact rf [2] [] (j6 :)
    ·refine cq 6 [2] [B false] 401 ?_
     subst h
     exact rf [2] [] (j6 :)
   ·refine cq 11 [2] [B false] 401 ?_
    exact rf [2] [] (j4 _ (ak h) :)
  ·refine cq 5 [37] [B (c_1.Op==3)] 225 ?_
   refine sq h ?_ ?_<;>intro h
   ·refine cq 5 [41] [B ((len c_1.Parts)==0)] 273 ?_
    obtain⟨y7,hy7,hy71,hy72⟩:=bJ h
    have j7:∀u7,y7=.inr u7→Run kg 0 (hY c_1 r) (.code Q3::.blk 0::.code kh::[]) (sT 80 [(2,B u7)] [] 1):=by
     intro u7 hu
     replace h:=hy72 u7 hu
     obtain rfl:=sI h
     exact rP [B u7]
    have r7:∀r',y7=.inl r'→∀st,hY c_1 r' st→(hY c_1 r) st:=fun r' e st hq=>by rw[hy71 r' e] at hq;exact hq
    replace h:=hy7
    refine sp 41 h rfl ?_ ?_<;>intro h
    ·refine cq 5 [46] [B (c_1.Name==([]:ac))] 353 ?_
     obtain⟨y8,hy8,hy81,hy82⟩:=bL h
     have j8:∀u8,y8=.inr u8→Run kg 0 (hY c_1 r) (.code Q3::.blk 0::.code kh::[]) (sT 80 [(2,B u8)] [] 1):=by
      intro u8 hu
      replace h:=hy82 u8 hu
      exact rf [2] [] (j7 _ (ak h) :)
     have r8:∀r',y8=.inl r'→∀st,hY c_1 r' st→(hY c_1 r) st:=fun r' e st hq=>r7 r' (hy81 r' e) st hq
     replace h:=hy8
     refine sp 46 h rfl ?_ ?_<;>intro h
     ·refine cq 2 [48] [I c_1.Day] 385 ?_
      obtain⟨r9,hr9,h⟩:=bS h
      refine oy 401 (B r9) rfl (cP (Hi hr9)) ?_
      refine cq 3 [2] [B r9] 433 ?_
      exact rf [2] [] (j8 _ (ak h) :)
     ·refine cq 6 [2] [B false] 433 ?_
      exact rf [2] [] (j8 _ (ak h) :)
    ·refine cq 11 [2] [B false] 433 ?_
     exact rf [2] [] (j7 _ (ak h) :)
   ·refine cq 5 [51] [B (c_1.Op==4)] 257 ?_
    refine sq h ?_ ?_<;>intro h
    ·refine cq 5 [55] [B ((len c_1.Parts)==1)] 305 ?_
     obtain⟨u10,hu10,h⟩:=lJ h
     have j10:Run kg 0 (hY c_1 r) (.code Q4::.blk 0::.code kh::[]) (sT 80 [(2,B u10)] [] 1):=by
      obtain rfl:=sI h
      exact rP [B u10]
     replace h:=hu10
     clear hu10
     refine sp 55 h rfl ?_ ?_<;>intro h
     ·refine cq 5 [60] [B (c_1.Name==([]:ac))] 385 ?_
      obtain⟨u11,hu11,h⟩:=lJ h
      have j11:Run kg 0 (hY c_1 r) (.code Q4::.blk 0::.code kh::[]) (sT 80 [(2,B u11)] [] 1):=by
       subst h
       exact rf [2] [] (j10 :)
      replace h:=hu11
      clear hu11
      refine sp 60 h rfl ?_ ?_<;>intro h
      ·refine cq 6 [2] [B (c_1.Day==0)] 465 ?_
       subst h
       exact rf [2] [] (j11 :)
      ·refine cq 6 [2] [B false] 465 ?_
       subst h
       exact rf [2] [] (j11 :)
     ·refine cq 11 [2] [B false] 465 ?_
      subst h
      exact rf [2] [] (j10 :)
    ·refine cq 6 [65] [B (c_1.Op==5)] 289 ?_
     obtain⟨u12,hu12,h⟩:=lJ h
     have j12:Run kg 0 (hY c_1 r) (.code (cR (cR (cR (cR (cR (cR (cR (cR (cR (cL (cR (cL (cR (cR oY))))))))))))))::.blk 0::.code kh::[]) (sT 80 [(1,.hp 1 0 [] 4 0 0),(3,I (len c_1.Parts)),(65,B u12)] [⟨0,4,[ai c_1]⟩] 2):=by
      refine sq h ?_ ?_<;>intro h
      ·refine cq 5 [70] [B ((len c_1.Parts)==2)] 50 ?_
       obtain⟨u13,hu13,h⟩:=lJ h
       have j13:Run kg 0 (hY c_1 r) (.code Q5::.blk 0::.code kh::[]) (sT 80 [(2,B u13)] [] 1):=by
        obtain rfl:=sI h
        exact rP [B u13]
       replace h:=hu13
       clear hu13
       refine sp 70 h rfl ?_ ?_<;>intro h
       ·refine cq 5 [75] [B (c_1.Name==([]:ac))] 130 ?_
        obtain⟨u14,hu14,h⟩:=lJ h
        have j14:Run kg 0 (hY c_1 r) (.code Q5::.blk 0::.code kh::[]) (sT 80 [(2,B u14)] [] 1):=by
         subst h
         exact rf [2] [] (j13 :)
        replace h:=hu14
        clear hu14
        refine sp 75 h rfl ?_ ?_<;>intro h
        ·refine cq 6 [2] [B (c_1.Day==0)] 210 ?_
         subst h
         exact rf [2] [] (j14 :)
        ·refine cq 6 [2] [B false] 210 ?_
         subst h
         exact rf [2] [] (j14 :)
       ·refine cq 11 [2] [B false] 210 ?_
        subst h
        exact rf [2] [] (j13 :)
      ·refine aq 1 ?_
       refine cq 5 [2] [B false] 18 ?_
       obtain rfl:=sI h
       exact rP [B false]
     replace h:=hu12
     clear hu12
     refine tG h rfl rfl ?_ ?_<;>intro h
     ·refine aq 1 ?_
      subst h
      exact rf [1,3,65] [1] (j12 :)
     ·refine cq 4 [65] [B (c_1.Op==6)] 321 ?_
      subst h
      exact rf [1,3,65] [1] (j12 :)
theorem Wu {G:bZ}:bW G 190 DB:=gT 1 0 (aO qG (aO xW bv)) ca Tryz.func190 (fun a r h=>Z4 a r h)
def xX:Condition→List V:=oA bD
def xY (r:Bool):V×List V:=(B r,[])
noncomputable def xZ (cH:Condition→Option Bool):Ent:=bf [false] xX xY cH
theorem Q6 (cH:Condition→Option Bool){x}{r}(h:cH x=some r):(xZ cH).F (xX x)=some (xY r):=aL (aM dt) h
noncomputable def DC :=xZ (aN sj)
theorem agj {c_1:Condition}{r}(h:Kb c_1=some r):DC.F (xX c_1)=some (xY r):=Q6 (aN sj) h
noncomputable def Ww :=aG Tryz.f169
noncomputable def NQ (cH:Condition→Option Bool):Env:=b9 [(190,DB),(169,(xZ cH))]
def Wv (cH:Condition→Option Bool)(x:Condition)(r:Bool):St→Prop:=QF (NQ cH) Tryz.f169 [false] (xX x) (xY r)
theorem Ql (cH:Condition→Option Bool)(c_1:Condition):ct (NQ cH) 0 (Wv cH c_1) (cL (cL (cR (cL (cR (cR Ww)))))) 0 (rY cH c_1) (fun u=>(sT 21 [] [] 1)) fun x3=>(sT 21 [(1,.hp 1 0 [] 4 0 0),(3,I x3)] [⟨0,4,[ai c_1]⟩] 2):=ez (A9 cH c_1) fun {Q K} hK self ih x3 y h hr hn=>by
 unfold l4 at h
 refine cq 6 [7,9] [I x3,.isl false (c_1.Parts.map aB)] 50 ?_
 refine oq 66 (I (len c_1.Parts)) rfl (bA rfl rfl rfl (bR rfl)) ?_
 refine cq 2 [11] [B (decide (x3<(len c_1.Parts)))] 82 ?_
 refine sq h ?_ ?_<;>intro h
 ·refine aq 1 ?_
  refine cq 7 [15,16] [.isl false (c_1.Parts.map aB),I x3] 130 ?_
  obtain⟨e4,he4,h⟩:=bS h
  refine oq 146 (.iptr (ai e4) 0) rfl (al rfl rfl rfl (aW rfl rfl (bU e4) rfl he4)) ?_
  refine cq 1 [18] [ai e4] 162 ?_
  obtain⟨r5,hr5,h⟩:=bS h
  refine oq 178 (B r5) rfl (bM rfl rfl (b7 rfl rfl rfl (aR (bo rfl) cS) (Q6 cH hr5) (.inr rfl) dH rfl rfl rfl)) ?_
  refine cq 2 [20] [B (!r5)] 194 ?_
  refine sq h ?_ ?_<;>intro h
  ·refine cq 4 [2] [B false] 210 ?_
   exact ci rfl (hr _ (ak h) _ (qp [B false]))
  ·refine aq 1 ?_
   refine cq 6 [3] [I (aj (x3+1))] 242 ?_
   refine dC ?_
   exact rf [1,3] [1] (ih _ _ h hr hn :)
 ·refine aq 1 ?_
  exact rf [] [] (hn _ (ak h) :) (hk:=hK)
theorem Z6 (cH:Condition→Option Bool)(c_1:Condition)(r:Bool)(h:uR cH c_1=some r):bq (NQ cH) Tryz.f169 [false] 0 (xX c_1) (xY r):=by
 show Run _ _ (Wv cH c_1 r) [.code Ww] _
 refine rI 21 [(0,ai c_1)] [] 1 ?_
 unfold uR at h
 refine ck 9 [1,4] [] [1] [] [.hp 1 0 [] 4 0 0,ai c_1] [some ⟨0,4,[ai c_1]⟩] 49 (by kernel_rfl) ?_
 obtain⟨r2,hr2,h⟩:=bS h
 refine oq 65 (B r2) rfl (cP (agi hr2)) ?_
 refine cq 2 [6] [B (!r2)] 81 ?_
 refine sq h ?_ ?_<;>intro h
 ·refine cq 4 [2] [B false] 97 ?_
  obtain rfl:=sI h
  exact rP [B false]
 ·refine aq 1 ?_
  refine cq 6 [3] [I (0)] 97 ?_
  obtain⟨y6,hy6,hy61,hy62⟩:=bJ h
  refine bV rfl ?_
  refine rf [1,3] [1] (Ql cH c_1 rfl 0 _ hy6 (fun r' e st hq=>by rw[hy61 r' e] at hq;exact hq) fun u6 hu=>?_)
  replace h:=hy62 u6 hu
  refine cq 4 [2] [B true] 17 ?_
  obtain rfl:=sI h
  exact rP [B true]
theorem Wx {G:bZ}:bW G 169 DC:=jg fun cH g_Ffec=>gT 1 0 (aO Wu (aO g_Ffec bv)) ca Tryz.func169 (fun a r h=>Z6 cH a r h)
def yq:Condition→List V:=oA bD
def yt (r:Int):V×List V:=(I r,[])
noncomputable def yu (cJ:Condition→Option Int):Ent:=bf [false] yq yt cJ
theorem Q8 (cJ:Condition→Option Int){x}{r}(h:cJ x=some r):(yu cJ).F (yq x)=some (yt r):=aL (aM dt) h
noncomputable def DI :=yu (aN l9)
theorem agm {c_1:Condition}{r}(h:NW c_1=some r):DI.F (yq c_1)=some (yt r):=Q8 (aN l9) h
noncomputable def WK :=aG Tryz.f170
noncomputable def NX (cJ:Condition→Option Int):Env:=b9 [(170,(yu cJ))]
def WJ (cJ:Condition→Option Int)(x:Condition)(r:Int):St→Prop:=QF (NX cJ) Tryz.f170 [false] (yq x) (yt r)
theorem Qq (cJ:Condition→Option Int)(c_1:Condition):ct (NX cJ) 0 (WJ cJ c_1) (cL (cL (cR (cL (cR (cR WK)))))) 0 (mE cJ c_1) (fun u=>(sT 21 [(3,I u)] [] 1)) fun x2=>(sT 21 [(1,.hp 1 0 [] 4 0 0),(3,I x2.1),(4,I x2.2)] [⟨0,4,[ai c_1]⟩] 2):=ez (Be cJ c_1) fun {Q K} hK self ih x2 y h hr hn=>by
 unfold kG at h
 refine cq 6 [5,7] [I x2.2,.isl false (c_1.Parts.map aB)] 50 ?_
 refine oq 66 (I (len c_1.Parts)) rfl (bA rfl rfl rfl (bR rfl)) ?_
 refine cq 2 [9] [B (decide (x2.2<(len c_1.Parts)))] 82 ?_
 refine sq h ?_ ?_<;>intro h
 ·refine aq 1 ?_
  refine cq 7 [12,14,15] [I x2.1,.isl false (c_1.Parts.map aB),I x2.2] 146 ?_
  obtain⟨e3,he3,h⟩:=bS h
  refine oq 162 (.iptr (ai e3) 0) rfl (al rfl rfl rfl (aW rfl rfl (bU e3) rfl he3)) ?_
  refine cq 1 [17] [ai e3] 178 ?_
  obtain⟨r4,hr4,h⟩:=bS h
  refine oq 194 (I r4) rfl (bM rfl rfl (b7 rfl rfl rfl (aR (bo rfl) cS) (Q8 cJ hr4) (.inr rfl) dH rfl rfl rfl)) ?_
  refine cq 9 [3,4] [I (aj (x2.1+r4)),I (aj (x2.2+1))] 274 ?_
  refine dC ?_
  exact rf [1,3,4] [1] (ih _ _ h hr hn :)
 ·refine aq 1 ?_
  exact rf [3] [] (hn _ (ak h) :) (hk:=hK)
theorem aah (cJ:Condition→Option Int)(c_1:Condition)(r:Int)(h:uY cJ c_1=some r):bq (NX cJ) Tryz.f170 [false] 0 (yq c_1) (yt r):=by
 show Run _ _ (WJ cJ c_1 r) [.code WK] _
 refine rI 21 [(0,ai c_1)] [] 1 ?_
 unfold uY at h
 refine ck 15 [1,3,4] [] [1] [] [.hp 1 0 [] 4 0 0,I (1),I (0)] [some ⟨0,4,[ai c_1]⟩] 65 (by kernel_rfl) ?_
 obtain⟨y5,hy5,hy51,hy52⟩:=bJ h
 refine bV rfl ?_
 refine rf [1,3,4] [1] (Qq cJ c_1 rfl (1,0) _ hy5 (fun r' e st hq=>by rw[hy51 r' e] at hq;exact hq) fun u5 hu=>?_)
 replace h:=hy52 u5 hu
 refine cq 5 [2] [I u5] 33 ?_
 obtain rfl:=sI h
 exact rP [I u5]
theorem WL {G:bZ}:bW G 170 DI:=jg fun cJ g_Ffek=>gT 1 0 (aO g_Ffek bv) ca Tryz.func170 (fun a r h=>aah cJ a r h)
def Hp:Condition→List V:=oA bD
def Hr (r:Bool):V×List V:=(B r,[])
noncomputable def DE :=bf [false] Hp Hr fun x=>DD x
theorem agk {c_1:Condition}{r}(h:DD c_1=some r):DE.F (Hp c_1)=some (Hr r):=aL (aM dt) h
noncomputable def Wy :=aG Tryz.f135
noncomputable def NR :=b9 [(169,DC),(170,DI)]
def Hq (x:Condition)(r:Bool):St→Prop:=QF NR Tryz.f135 [false] (Hp x) (Hr r)
theorem Z7 (c_1:Condition)(r:Bool)(h:DD c_1=some r):bq NR Tryz.f135 [false] 0 (Hp c_1) (Hr r):=by
 show Run _ _ (Hq c_1 r) [.code Wy] _
 refine rI 10 [(0,ai c_1)] [] 1 ?_
 unfold DD at h
 refine ck 8 [1,3] [] [1] [] [.hp 1 0 [] 4 0 0,ai c_1] [some ⟨0,4,[ai c_1]⟩] 49 (by kernel_rfl) ?_
 obtain⟨r2,hr2,h⟩:=bS h
 refine oq 65 (B r2) rfl (cP (agj hr2)) ?_
 refine cq 1 [5] [B r2] 81 ?_
 obtain⟨y3,hy3,hy31,hy32⟩:=bJ h
 have j3:∀u3,y3=.inr u3→Run NR 0 (Hq c_1 r) (.code (cR (cR Wy))::[]) (sT 10 [(2,B u3)] [] 1):=by
  intro u3 hu
  replace h:=hy32 u3 hu
  obtain rfl:=sI h
  exact rP [B u3]
 have r3:∀r',y3=.inl r'→∀st,Hq c_1 r' st→(Hq c_1 r) st:=fun r' e st hq=>by rw[hy31 r' e] at hq;exact hq
 replace h:=hy3
 refine sp 5 h rfl ?_ ?_<;>intro h
 ·refine cq 1 [6] [ai c_1] 97 ?_
  obtain⟨r4,hr4,h⟩:=bS h
  refine oy 113 (I r4) rfl (cP (agm hr4)) ?_
  refine cq 4 [2] [B (decide (r4≤15))] 161 ?_
  exact rf [2] [] (j3 _ (ak h) :)
 ·refine cq 6 [2] [B false] 161 ?_
  exact rf [2] [] (j3 _ (ak h) :)
theorem Wz {G:bZ}:bW G 135 DE:=gT 1 0 (aO Wx (aO WL bv)) ca Tryz.func135 (fun a r h=>Z7 a r h)
def HH:(Contract×Int)→List V:=cA aV (oA I)
def HI (r:Bool):V×List V:=(B r,[])
noncomputable def DK :=bf [false,false] HH HI fun x=>DJ x.1 x.2
theorem WM {c_1:Contract}{i_2:Int}{r}(h:DJ c_1 i_2=some r):DK.F (HH (c_1,i_2))=some (HI r):=aL (aH bc (aM bd)) h
noncomputable def NY :=aG Tryz.f92
noncomputable abbrev ow :=cR (cR (cR (cR NY)))
noncomputable abbrev sb :=cR (cL (cR (cR (cR NY))))
noncomputable abbrev uZ :=cR ow
noncomputable abbrev zF :=cR (cL ow)
noncomputable abbrev Kd :=cR (cR (cR uZ))
noncomputable def jc :=b9 [(80,nA),(89,f9),(91,we),(135,DE)]
def eH (x:Contract×Int)(r:Bool):St→Prop:=QF jc Tryz.f92 [false,false] (HH x) (HI r)
theorem aai (c_1:Contract)(i_2:Int)(r:Bool)(h:DJ c_1 i_2=some r):bq jc Tryz.f92 [false,false] 0 (HH (c_1,i_2)) (HI r):=by
 show Run _ _ (eH (c_1,i_2) r) [.code NY] _
 refine rI 114 [(0,aa c_1),(1,I i_2)] [] 1 ?_
 unfold DJ at h
 refine ck 10 [2,9,10] [] [1] [] [.hp 1 0 [] 2 0 0,.isl false (c_1.Clauses.map ao),I i_2] [some ⟨0,2,[aa c_1]⟩] 81 (by kernel_rfl) ?_
 obtain⟨e3,he3,h⟩:=bS h
 refine oq 97 (.iptr (ap e3) 0) rfl (al rfl rfl rfl (aW rfl rfl rfl rfl he3)) ?_
 refine ck 2 [5,12] [] [113] [] [.hp 113 0 [] 12 0 0,ap e3] [some ⟨0,12,[.agg [str ([]),I (0),I (0),str ([]),I (0),I (0),I (0),str ([]),I (0),.isl true [],I (0),str ([])]]⟩] 129 (by kernel_rfl) ?_
 refine fK 113 [.agg [str ([]),I (0),I (0),str ([]),I (0),I (0),I (0),str ([]),I (0),.usl 4 (([]).map aF),I (0),str ([])]] rfl rfl (aJ (gC (aJ (.refl _) (aJ (.refl _) (aJ (.refl _) (aJ (.refl _) (aJ (.refl _) (aJ (.refl _) (aJ (.refl _) (aJ (.refl _) (aJ (.refl _) (aJ (.nil _) (aJ (.refl _) (aJ (.refl _) eF))))))))))))) eF) ?_
 refine ck 6 [14] [] [113] [] [.isl false (c_1.Parties.map str)] [some ⟨2,12,[ap e3]⟩] 177 (by kernel_rfl) ?_
 refine oq 193 (I (len c_1.Parties)) rfl (bA rfl rfl rfl (bR rfl)) ?_
 refine cq 7 [6,17] [I (len c_1.Parties),str e3.Id] 241 ?_
 obtain⟨r4,hr4,h⟩:=bS h
 refine oq 257 (B r4) rfl (cP (qE hr4)) ?_
 refine cq 2 [20] [B (!r4)] 289 ?_
 obtain⟨y5,hy5,hy51,hy52⟩:=bJ h
 have j5:∀u5,y5=.inr u5→Run jc 0 (eH (c_1,i_2) r) (.code sb::.code ow::[]) (sT 114 [(1,I i_2),(2,.hp 1 0 [] 2 0 0),(5,.hp 2 0 [] 12 0 0),(60,B u5)] [⟨0,2,[aa c_1]⟩,⟨0,12,[ap e3]⟩] 3):=by
  intro u5 hu
  replace h:=hy52 u5 hu
  refine sq h ?_ ?_<;>intro h
  ·refine cq 4 [4] [B false] 19 ?_
   obtain rfl:=sI h
   exact rP [B false]
  ·refine aq 1 ?_
   refine cq 5 [62] [I e3.Amount] 35 ?_
   obtain⟨r6,hr6,h⟩:=bS h
   refine oq 51 (B r6) rfl (cP (eK hr6)) ?_
   refine cq 2 [65] [B (!r6)] 83 ?_
   obtain⟨y7,hy7,hy71,hy72⟩:=bJ h
   have j7:∀u7,y7=.inr u7→Run jc 0 (eH (c_1,i_2) r) (.code zF::.code uZ::[]) (sT 114 [(1,I i_2),(2,.hp 1 0 [] 2 0 0),(5,.hp 2 0 [] 12 0 0),(85,B u7)] [⟨0,2,[aa c_1]⟩,⟨0,12,[ap e3]⟩] 3):=by
    intro u7 hu
    replace h:=hy72 u7 hu
    refine sq h ?_ ?_<;>intro h
    ·refine cq 4 [4] [B false] 19 ?_
     obtain rfl:=sI h
     exact rP [B false]
    ·refine aq 1 ?_
     refine cq 7 [88] [B (e3.Repair==([]:ac))] 51 ?_
     refine sq h ?_ ?_<;>intro h
     ·refine cq 4 [4] [B true] 67 ?_
      obtain rfl:=sI h
      exact rP [B true]
     ·refine aq 1 ?_
      refine cq 5 [89,91] [aa c_1,str e3.Repair] 99 ?_
      obtain⟨r8,hr8,h⟩:=bS h
      refine oq 115 (I r8) rfl (cP (N1 hr8)) ?_
      refine cq 7 [7,95] [I r8,B (decide (r8≥0))] 179 ?_
      obtain⟨y9,hy9,hy91,hy92⟩:=bJ h
      have j9:∀u9,y9=.inr u9→Run jc 0 (eH (c_1,i_2) r) (.code Kd::[]) (sT 114 [(4,B u9)] [] 1):=by
       intro u9 hu
       replace h:=hy92 u9 hu
       obtain rfl:=sI h
       exact rP [B u9]
      have r9:∀r',y9=.inl r'→∀st,eH (c_1,i_2) r' st→(eH (c_1,i_2) r) st:=fun r' e st hq=>by rw[hy91 r' e] at hq;exact hq
      replace h:=hy9
      refine sp 95 h rfl ?_ ?_<;>intro h
      ·refine cq 5 [100] [B (r8 != i_2)] 259 ?_
       obtain⟨y10,hy10,hy101,hy102⟩:=bL h
       have j10:∀u10,y10=.inr u10→Run jc 0 (eH (c_1,i_2) r) (.code Kd::[]) (sT 114 [(4,B u10)] [] 1):=by
        intro u10 hu
        replace h:=hy102 u10 hu
        exact rf [4] [] (j9 _ (ak h) :)
       have r10:∀r',y10=.inl r'→∀st,eH (c_1,i_2) r' st→(eH (c_1,i_2) r) st:=fun r' e st hq=>r9 r' (hy101 r' e) st hq
       replace h:=hy10
       refine sp 100 h rfl ?_ ?_<;>intro h
       ·refine cq 3 [102,103] [.isl false (c_1.Clauses.map ao),I r8] 307 ?_
        obtain⟨e11,he11,h⟩:=bS h
        refine oy 323 (.iptr (ap e11) 0) rfl (al rfl rfl rfl (aW rfl rfl rfl rfl he11)) ?_
        refine cq 5 [109] [B (e11.Kind==1)] 403 ?_
        obtain⟨u12,hu12,h⟩:=lJ h
        have j12:Run jc 0 (eH (c_1,i_2) r) (.code Kd::[]) (sT 114 [(4,B u12)] [] 1):=by
         exact rf [4] [] (j10 _ (ak h) :)
        replace h:=hu12
        clear hu12
        refine sp 109 h rfl ?_ ?_<;>intro h
        ·refine cq 6 [4] [B (e3.Kind != 3)] 483 ?_
         subst h
         exact rf [4] [] (j12 :)
        ·refine cq 6 [4] [B false] 483 ?_
         subst h
         exact rf [4] [] (j12 :)
       ·refine cq 15 [4] [B false] 483 ?_
        exact rf [4] [] (j10 _ (ak h) :)
      ·refine cq 20 [4] [B false] 483 ?_
       exact rf [4] [] (j9 _ (ak h) :)
   have r7:∀r',y7=.inl r'→∀st,eH (c_1,i_2) r' st→(eH (c_1,i_2) r) st:=fun r' e st hq=>by rw[hy71 r' e] at hq;exact hq
   replace h:=hy7
   refine sp 65 h rfl ?_ ?_<;>intro h
   ·refine cq 21 [85] [B true] 403 ?_
    exact rf [1,2,5,85] [1,2] (j7 _ (ak h) :)
   ·refine cq 2 [67] [I e3.Within] 115 ?_
    obtain⟨r13,hr13,h⟩:=bS h
    refine oy 131 (B r13) rfl (cP (eK hr13)) ?_
    refine cq 3 [71] [B (!r13)] 179 ?_
    obtain⟨u14,hu14,h⟩:=lJ h
    have j14:Run jc 0 (eH (c_1,i_2) r) (.code zF::.code uZ::[]) (sT 114 [(1,I i_2),(2,.hp 1 0 [] 2 0 0),(5,.hp 2 0 [] 12 0 0),(85,B u14)] [⟨0,2,[aa c_1]⟩,⟨0,12,[ap e3]⟩] 3):=by
     exact rf [1,2,5,85] [1,2] (j7 _ (ak h) :)
    replace h:=hu14
    clear hu14
    refine sp 71 h rfl ?_ ?_<;>intro h
    ·refine cq 15 [85] [B true] 403 ?_
     subst h
     exact rf [1,2,5,85] [1,2] (j14 :)
    ·refine cq 4 [75] [B (e3.Kind != 1)] 243 ?_
     obtain⟨u15,hu15,h⟩:=lJ h
     have j15:Run jc 0 (eH (c_1,i_2) r) (.code zF::.code uZ::[]) (sT 114 [(1,I i_2),(2,.hp 1 0 [] 2 0 0),(5,.hp 2 0 [] 12 0 0),(85,B u15)] [⟨0,2,[aa c_1]⟩,⟨0,12,[ap e3]⟩] 3):=by
      subst h
      exact rf [1,2,5,85] [1,2] (j14 :)
     replace h:=hu15
     clear hu15
     refine sp 75 h rfl ?_ ?_<;>intro h
     ·refine cq 4 [79] [B (e3.Amount != 0)] 307 ?_
      obtain⟨u16,hu16,h⟩:=lJ h
      have j16:Run jc 0 (eH (c_1,i_2) r) (.code zF::.code uZ::[]) (sT 114 [(1,I i_2),(2,.hp 1 0 [] 2 0 0),(5,.hp 2 0 [] 12 0 0),(85,B u16)] [⟨0,2,[aa c_1]⟩,⟨0,12,[ap e3]⟩] 3):=by
       subst h
       exact rf [1,2,5,85] [1,2] (j15 :)
      replace h:=hu16
      clear hu16
      refine sp 79 h rfl ?_ ?_<;>intro h
      ·refine cq 7 [85] [B true] 403 ?_
       subst h
       exact rf [1,2,5,85] [1,2] (j16 :)
      ·refine cq 7 [85] [B (e3.Within != 0)] 403 ?_
       subst h
       exact rf [1,2,5,85] [1,2] (j16 :)
     ·refine cq 11 [85] [B false] 403 ?_
      subst h
      exact rf [1,2,5,85] [1,2] (j15 :)
 have r5:∀r',y5=.inl r'→∀st,eH (c_1,i_2) r' st→(eH (c_1,i_2) r) st:=fun r' e st hq=>by rw[hy51 r' e] at hq;exact hq
 replace h:=hy5
 refine sp 20 h rfl ?_ ?_<;>intro h
 ·refine cq 41 [60] [B true] 929 ?_
  exact rf [1,2,5,60] [1,113] (j5 _ (ak h) :)
 ·refine cq 2 [22] [str e3.Action] 321 ?_
  obtain⟨r17,hr17,h⟩:=bS h
  refine oy 337 (B r17) rfl (cP (qE hr17)) ?_
  refine cq 3 [26] [B (!r17)] 385 ?_
  obtain⟨y18,hy18,hy181,hy182⟩:=bL h
  have j18:∀u18,y18=.inr u18→Run jc 0 (eH (c_1,i_2) r) (.code sb::.code ow::[]) (sT 114 [(1,I i_2),(2,.hp 1 0 [] 2 0 0),(5,.hp 2 0 [] 12 0 0),(60,B u18)] [⟨0,2,[aa c_1]⟩,⟨0,12,[ap e3]⟩] 3):=by
   intro u18 hu
   replace h:=hy182 u18 hu
   exact rf [1,2,5,60] [1,2] (j5 _ (ak h) :)
  have r18:∀r',y18=.inl r'→∀st,eH (c_1,i_2) r' st→(eH (c_1,i_2) r) st:=fun r' e st hq=>r5 r' (hy181 r' e) st hq
  replace h:=hy18
  refine sp 26 h rfl ?_ ?_<;>intro h
  ·refine cq 35 [60] [B true] 929 ?_
   exact rf [1,2,5,60] [1,113] (j18 _ (ak h) :)
  ·refine cq 2 [28] [I e3.Kind] 417 ?_
   obtain⟨r19,hr19,h⟩:=bS h
   refine oy 433 (B r19) rfl (cP (eK hr19)) ?_
   refine cq 3 [32] [B (!r19)] 481 ?_
   obtain⟨y20,hy20,hy201,hy202⟩:=bL h
   have j20:∀u20,y20=.inr u20→Run jc 0 (eH (c_1,i_2) r) (.code sb::.code ow::[]) (sT 114 [(1,I i_2),(2,.hp 1 0 [] 2 0 0),(5,.hp 2 0 [] 12 0 0),(60,B u20)] [⟨0,2,[aa c_1]⟩,⟨0,12,[ap e3]⟩] 3):=by
    intro u20 hu
    replace h:=hy202 u20 hu
    exact rf [1,2,5,60] [1,2] (j18 _ (ak h) :)
   have r20:∀r',y20=.inl r'→∀st,eH (c_1,i_2) r' st→(eH (c_1,i_2) r) st:=fun r' e st hq=>r18 r' (hy201 r' e) st hq
   replace h:=hy20
   refine sp 32 h rfl ?_ ?_<;>intro h
   ·refine cq 29 [60] [B true] 929 ?_
    exact rf [1,2,5,60] [1,113] (j20 _ (ak h) :)
   ·refine cq 4 [34,36] [I e3.Party,I (aj ((len c_1.Parties) - 1))] 545 ?_
    obtain⟨r21,hr21,h⟩:=bS h
    refine oy 561 (B r21) rfl (cP (eK hr21)) ?_
    refine cq 3 [40] [B (!r21)] 609 ?_
    obtain⟨y22,hy22,hy221,hy222⟩:=bL h
    have j22:∀u22,y22=.inr u22→Run jc 0 (eH (c_1,i_2) r) (.code sb::.code ow::[]) (sT 114 [(1,I i_2),(2,.hp 1 0 [] 2 0 0),(5,.hp 2 0 [] 12 0 0),(60,B u22)] [⟨0,2,[aa c_1]⟩,⟨0,12,[ap e3]⟩] 3):=by
     intro u22 hu
     replace h:=hy222 u22 hu
     exact rf [1,2,5,60] [1,2] (j20 _ (ak h) :)
    have r22:∀r',y22=.inl r'→∀st,eH (c_1,i_2) r' st→(eH (c_1,i_2) r) st:=fun r' e st hq=>r20 r' (hy221 r' e) st hq
    replace h:=hy22
    refine sp 40 h rfl ?_ ?_<;>intro h
    ·refine cq 21 [60] [B true] 929 ?_
     exact rf [1,2,5,60] [1,113] (j22 _ (ak h) :)
    ·refine cq 4 [42,44] [I e3.Other,I (aj ((len c_1.Parties) - 1))] 673 ?_
     obtain⟨r23,hr23,h⟩:=bS h
     refine oy 689 (B r23) rfl (cP (eK hr23)) ?_
     refine cq 3 [48] [B (!r23)] 737 ?_
     obtain⟨y24,hy24,hy241,hy242⟩:=bL h
     have j24:∀u24,y24=.inr u24→Run jc 0 (eH (c_1,i_2) r) (.code sb::.code ow::[]) (sT 114 [(1,I i_2),(2,.hp 1 0 [] 2 0 0),(5,.hp 2 0 [] 12 0 0),(60,B u24)] [⟨0,2,[aa c_1]⟩,⟨0,12,[ap e3]⟩] 3):=by
      intro u24 hu
      replace h:=hy242 u24 hu
      exact rf [1,2,5,60] [1,2] (j22 _ (ak h) :)
     have r24:∀r',y24=.inl r'→∀st,eH (c_1,i_2) r' st→(eH (c_1,i_2) r) st:=fun r' e st hq=>r22 r' (hy241 r' e) st hq
     replace h:=hy24
     refine sp 48 h rfl ?_ ?_<;>intro h
     ·refine cq 13 [60] [B true] 929 ?_
      exact rf [1,2,5,60] [1,113] (j24 _ (ak h) :)
     ·refine cq 7 [55] [B (e3.Party==e3.Other)] 849 ?_
      obtain⟨y25,hy25,hy251,hy252⟩:=bL h
      have j25:∀u25,y25=.inr u25→Run jc 0 (eH (c_1,i_2) r) (.code sb::.code ow::[]) (sT 114 [(1,I i_2),(2,.hp 1 0 [] 2 0 0),(5,.hp 2 0 [] 12 0 0),(60,B u25)] [⟨0,2,[aa c_1]⟩,⟨0,12,[ap e3]⟩] 3):=by
       intro u25 hu
       replace h:=hy252 u25 hu
       exact rf [1,2,5,60] [1,2] (j24 _ (ak h) :)
      have r25:∀r',y25=.inl r'→∀st,eH (c_1,i_2) r' st→(eH (c_1,i_2) r) st:=fun r' e st hq=>r24 r' (hy251 r' e) st hq
      replace h:=hy25
      refine sp 55 h rfl ?_ ?_<;>intro h
      ·refine cq 6 [60] [B true] 929 ?_
       exact rf [1,2,5,60] [1,113] (j25 _ (ak h) :)
      ·refine cq 2 [57] [ai e3.When] 881 ?_
       obtain⟨r26,hr26,h⟩:=bS h
       refine oy 897 (B r26) rfl (cP (agk hr26)) ?_
       refine cq 3 [60] [B (!r26)] 929 ?_
       exact rf [1,2,5,60] [1,113] (j25 _ (ak h) :)
theorem WN {G:bZ}:bW G 92 DK:=gT 2 0 (aO qG (aO gF (aO K5 (aO Wz bv)))) ca Tryz.func92 (fun a r h=>aai a.1 a.2 r h)
def HB:((List ac)×ac)→List V:=cA (sU 1 str) (oA str)
def HC (r:(List ac)):V×List V:=(.usl 1 (r.map str),[.dead])
noncomputable def wc :=bf [true,false] HB HC fun x=>yj x.1 x.2
theorem NV {l_8:List ac}{s_9:ac}{r}(h:yj l_8 s_9=some r):wc.F (HB (l_8,s_9))=some (HC r):=aL (aH (ju bx) (aM bx)) h
noncomputable def sr :=aG Tryz.f137
noncomputable def yk :=b9 []
def uV (x:(List ac)×ac)(r:(List ac)):St→Prop:=QF yk Tryz.f137 [true,false] (HB x) (HC r)
theorem Qp (l_8:List ac)(s_9:ac):ct yk 1 (uV (l_8,s_9)) (cL (cL (cL (cR (cR sr))))) 0 (uW l_8 s_9) (fun u=>(sO 45 [(0,.hs 2 0 [] 1 0 (u.2.2.map str).length),(1,str u.1),(5,I u.2.1)] [none,some ⟨0,1,u.2.2.map str⟩] 3)) fun x3=>(sO 45 [(0,.hs 2 0 [] 1 0 (l_8.map str).length),(1,str s_9),(5,I x3)] [none,some ⟨0,1,l_8.map str⟩] 3):=ez (Bd l_8 s_9) fun {Q K} hK self ih x3 y h hr hn=>by
 unfold l8 at h
 refine cq 5 [6,7] [I x3,.hs 2 0 [] 1 0 (l_8.map str).length] 35 ?_
 refine oq 51 (I (len l_8)) rfl (bA rfl rfl rfl (rD (f:=str) (xs:=l_8) rfl rfl)) ?_
 refine cq 2 [10] [B (decide (x3<(len l_8)))] 83 ?_
 obtain⟨y4,hy4,hy41,hy42⟩:=bL h
 have j4:∀u4,y4=.inr u4→Run yk 1 Q (.code (cR (cL (cL (cL (cL (cR (cR sr)))))))::.code (cR (cL (cL (cL (cR (cR sr))))))::.lp (cL (cL (cL (cR (cR sr)))))::.blk 0::K) (sO 45 [(0,.hs 2 0 [] 1 0 (l_8.map str).length),(1,str s_9),(5,I x3),(17,B u4)] [none,some ⟨0,1,l_8.map str⟩] 3):=by
  intro u4 hu
  replace h:=hy42 u4 hu
  refine sq h ?_ ?_<;>intro h
  ·refine aq 1 ?_
   refine cq 7 [5] [I (aj (x3+1))] 51 ?_
   refine dC ?_
   exact rg [0,1,5] [52,2] (ih _ _ h hr hn :)
  ·refine aq 1 ?_
   exact rg [0,1,5] [4,2] (hn _ (ak h) :) (hk:=hK)
 have r4:∀r',y4=.inl r'→∀st,uV (l_8,s_9) r' st→Q st:=fun r' e st hq=>hr r' (hy41 r' e) st hq
 replace h:=hy4
 refine sp 10 h rfl ?_ ?_<;>intro h
 ·refine cq 2 [11,12] [.hs 2 0 [] 1 0 (l_8.map str).length,I x3] 115 ?_
  obtain⟨e5,he5,h⟩:=bS h
  refine oy 131 (.hp 2 0 [] 1 (0+Int.toNat x3) 0) rfl (al rfl rfl rfl (d7 (f:=str) (xs:=l_8) rfl rfl rfl he5)) ?_
  refine oy 147 (str e5) rfl (aU rfl (gq (path:=[]) rfl rfl rfl aQ (dD (f:=str) (xs:=l_8) he5) rfl rfl rfl)) ?_
  refine cq 4 [17] [B (Op.bytesLess e5 s_9)] 195 ?_
  exact rg [0,1,5,17] [196,2] (j4 _ (ak h) :)
 ·refine cq 8 [17] [B false] 195 ?_
  exact rg [0,1,5,17] [196,2] (j4 _ (ak h) :)
theorem aae (l_8:List ac)(s_9:ac)(r:(List ac))(h:yj l_8 s_9=some r):bq yk Tryz.f137 [true,false] 1 (HB (l_8,s_9)) (HC r):=by
 show Run _ _ (uV (l_8,s_9) r) [.code sr] _
 refine rI 45 [(0,.hs 1 0 [] 1 0 (l_8.map str).length),(1,str s_9)] [(1,some ⟨0,1,l_8.map str⟩)] 2 ?_
 unfold yj at h
 refine cq 10 [5] [I (0)] 34 ?_
 obtain⟨y6,hy6,hy61,hy62⟩:=bJ h
 refine bV rfl ?_
 refine rg [0,1,5] [35,1] (Qp l_8 s_9 rfl 0 _ hy6 (fun r' e st hq=>by rw[hy61 r' e] at hq;exact hq) fun u6 hu=>?_)
 replace h:=hy62 u6 hu
 refine cq 5 [20,21] [I u6.2.1,.hs 2 0 [] 1 0 (u6.2.2.map str).length] 35 ?_
 refine oq 51 (I (len u6.2.2)) rfl (bA rfl rfl rfl (rD (f:=str) (xs:=u6.2.2) rfl rfl)) ?_
 refine cq 2 [24] [B (decide (u6.2.1<(len u6.2.2)))] 83 ?_
 obtain⟨y7,hy7,hy71,hy72⟩:=bJ h
 have j7:∀u7,y7=.inr u7→Run yk 1 (uV (l_8,s_9) r) (.code (cR (cL (cR (cR (cR sr)))))::.code (cR (cR (cR (cR sr))))::[]) (sO 45 [(0,.hs 2 0 [] 1 0 (u6.2.2.map str).length),(1,str u6.1),(5,I u6.2.1),(31,B u7)] [none,some ⟨0,1,u6.2.2.map str⟩] 3):=by
  intro u7 hu
  replace h:=hy72 u7 hu
  refine sq h ?_ ?_<;>intro h
  ·refine cq 5 [4] [.hs 2 0 [] 1 0 (u6.2.2.map str).length] 35 ?_
   obtain rfl:=sI h
   exact ci rfl ⟨_,fin (vs:=[.hs 2 0 [] 1 0 (u6.2.2.map str).length]) rfl (fU (fC rfl (cZ rfl rfl)) eg) rfl (mp rfl (rJ rfl) (dh fa)),wJ eW⟩
  ·refine aq 1 ?_
   refine aq 1 ?_
   refine dV [0,0,0,6,15,0,32,127,0,0,768,2047,4095] rfl (by decide +kernel) ?_
   refine dq [] [] (.hs 3 0 [] 1 0 0) rfl (eB rfl (ka (f:=I) (xs:=[]) (z:=str ([])) (es:=[]) (ws:=[]) rfl rfl rfl (by decide) rfl (dR rfl) rfl)) ?_
   refine dk 2 [35,34] [I u6.2.1,.hs 2 0 [] 1 0 (u6.2.2.map str).length] ?_
   obtain⟨s8,hs8,h⟩:=bS h
   refine dq [2] [] (.hs 2 0 [] 1 (0+Int.toNat (0)) (Int.toNat u6.2.1 - Int.toNat (0))) rfl (iK rfl rfl rfl rfl (vJ (f:=str) (xs:=u6.2.2) rfl rfl rfl rfl rfl hs8)) ?_
   obtain⟨p9,hp9,h⟩:=bS h
   obtain⟨a10,ha10,h⟩:=bS h
   refine dq [3,2] [3] (.hs 67 0 [] 1 0 (a10.map str).length) rfl (iP rfl rfl rfl rfl rfl (lf (path:=[]) (es0:=[]) (f:=str) (xs:=([]:List ac)) (ys:=p9) rfl rfl (RK (path:=[]) (f:=str) (xs:=u6.2.2) rfl rfl aQ hp9 nL) rfl rfl rfl rfl rfl (by decide) kL ha10 rfl nM)) ?_ (JK rfl (IY (path:=[]) (f:=str) (xs:=u6.2.2) rfl rfl aQ nL rfl))
   refine dk 1 [38] [str u6.1] ?_
   refine dq [] [] (.hs 99 0 [] 1 0 1) rfl (eB rfl (ka (f:=I) (xs:=[]) (z:=str ([])) (es:=[str u6.1]) (ws:=[str u6.1]) rfl rfl rfl (by decide) rfl (dR rfl) rfl)) ?_
   obtain⟨a11,ha11,h⟩:=bS h
   refine dq [67,99] [67] (.hs 115 0 [] 1 0 (a11.map str).length) rfl (iP rfl rfl rfl rfl rfl (lf (path:=[]) (f:=str) (xs:=a10) (ys:=[u6.1]) rfl rfl (vL rfl rfl rfl) rfl rfl rfl aQ rfl (by decide) kL ha11 rfl nM)) ?_ (JK rfl (IY (path:=[]) (f:=str) (xs:=[u6.1]) rfl rfl aQ nL rfl))
   refine dk 2 [42,41] [I u6.2.1,.hs 2 0 [] 1 0 (u6.2.2.map str).length] ?_
   obtain⟨s12,hs12,h⟩:=bS h
   refine dq [2] [] (.hs 2 0 [] 1 (0+Int.toNat u6.2.1) (Int.toNat (len u6.2.2) - Int.toNat u6.2.1)) rfl (iK rfl rfl rfl rfl (vJ (f:=str) (xs:=u6.2.2) rfl rfl rfl rfl (aaU rfl) hs12)) ?_
   obtain⟨p13,hp13,h⟩:=bS h
   obtain⟨a14,ha14,h⟩:=bS h
   refine dq [115,2] [115] (.hs 179 0 [] 1 0 (a14.map str).length) rfl (iP rfl rfl rfl rfl rfl (lf (path:=[]) (f:=str) (xs:=a11) (ys:=p13) rfl rfl (RK (path:=[]) (f:=str) (xs:=u6.2.2) rfl rfl aQ hp13 nL) rfl rfl rfl aQ rfl (by decide) kL ha14 rfl nM)) ?_ (JK rfl (IY (path:=[]) (f:=str) (xs:=u6.2.2) rfl rfl aQ nL rfl))
   refine dk 1 [4] [.hs 179 0 [] 1 0 (a14.map str).length] ?_
   refine de 211 rfl rfl ?_
   obtain rfl:=sI h
   exact ci rfl ⟨_,fin (vs:=[.hs 179 0 [] 1 0 (a14.map str).length]) rfl (fU (fC rfl (cZ rfl rfl)) eg) rfl (mp rfl (rJ rfl) (dh fa)),wJ eW⟩
 have r7:∀r',y7=.inl r'→∀st,uV (l_8,s_9) r' st→(uV (l_8,s_9) r) st:=fun r' e st hq=>by rw[hy71 r' e] at hq;exact hq
 replace h:=hy7
 refine sp 24 h rfl ?_ ?_<;>intro h
 ·refine cq 2 [25,26] [.hs 2 0 [] 1 0 (u6.2.2.map str).length,I u6.2.1] 115 ?_
  obtain⟨e15,he15,h⟩:=bS h
  refine oy 131 (.hp 2 0 [] 1 (0+Int.toNat u6.2.1) 0) rfl (al rfl rfl rfl (d7 (f:=str) (xs:=u6.2.2) rfl rfl rfl he15)) ?_
  refine oy 147 (str e15) rfl (aU rfl (gq (path:=[]) rfl rfl rfl aQ (dD (f:=str) (xs:=u6.2.2) he15) rfl rfl rfl)) ?_
  refine cq 4 [31] [B (e15==u6.1)] 195 ?_
  exact rg [0,1,5,31] [196,2] (j7 _ (ak h) :)
 ·refine cq 8 [31] [B false] 195 ?_
  exact rg [0,1,5,31] [196,2] (j7 _ (ak h) :)
theorem K4 {G:bZ}:bW G 137 wc:=gT 2 1 bv ca Tryz.func137 (fun a r h=>aae a.1 a.2 r h)
def yg:((List ac)×Condition)→List V:=cA (sU 1 str) (oA bD)
def yh (r:(List ac)):V×List V:=(.usl 1 (r.map str),[.dead])
noncomputable def yi (cI:((List ac)×Condition)→Option (List ac)):Ent:=bf [true,false] yg yh cI
theorem Q7 (cI:((List ac)×Condition)→Option (List ac)){x}{r}(h:cI x=some r):(yi cI).F (yg x)=some (yh r):=aL (aH (ju bx) (aM dt)) h
noncomputable def DG :=yi (aN l7)
theorem WE {l_4:List ac}{c_5:Condition}{r}(h:NT l_4 c_5=some r):DG.F (yg (l_4,c_5))=some (yh r):=Q7 (aN l7) h
noncomputable def WG :=aG Tryz.f136
noncomputable def NU (cI:((List ac)×Condition)→Option (List ac)):Env:=b9 [(137,wc),(136,(yi cI))]
def WF (cI:((List ac)×Condition)→Option (List ac))(x:(List ac)×Condition)(r:(List ac)):St→Prop:=QF (NU cI) Tryz.f136 [true,false] (yg x) (yh r)
theorem Qo (cI:((List ac)×Condition)→Option (List ac))(l_4:List ac)(c_5:Condition):ct (NU cI) 1 (WF cI (l_4,c_5)) (cL (cL (cR (cL (cR (cR WG)))))) 0 (mD cI l_4 c_5) (fun u=>(sO 28 [(0,.hs 2 0 [] 1 0 (u.map str).length)] [none,some ⟨0,1,u.map str⟩] 3)) fun x4=>(sO 28 [(0,.hs 2 0 [] 1 0 (x4.2.map str).length),(3,.hp 3 0 [] 4 0 0),(5,I x4.1)] [none,some ⟨0,1,x4.2.map str⟩,some ⟨0,4,[ai c_5]⟩] 4):=ez (Bc cI l_4 c_5) fun {Q K} hK self ih x4 y h hr hn=>by
 unfold kF at h
 refine cq 6 [13,15] [I x4.1,.isl false (c_5.Parts.map aB)] 52 ?_
 refine oq 68 (I (len c_5.Parts)) rfl (bA rfl rfl rfl (bR rfl)) ?_
 refine cq 2 [17] [B (decide (x4.1<(len c_5.Parts)))] 84 ?_
 refine sq h ?_ ?_<;>intro h
 ·refine aq 1 ?_
  refine cq 7 [20,22,23] [.hs 2 0 [] 1 0 (x4.2.map str).length,.isl false (c_5.Parts.map aB),I x4.1] 148 ?_
  obtain⟨e5,he5,h⟩:=bS h
  refine oq 164 (.iptr (ai e5) 0) rfl (al rfl rfl rfl (aW rfl rfl (bU e5) rfl he5)) ?_
  refine cq 1 [25] [ai e5] 180 ?_
  obtain⟨r6,hr6,h⟩:=bS h
  refine oq 196 (.hs 180 0 [] 1 0 (r6.map str).length) rfl (bM rfl rfl (b7 rfl rfl rfl (lL (kI rfl (gH (path:=[]) rfl rfl aQ rfl)) (aR (bo rfl) cS)) (Q7 cI hr6) (.inr rfl) (jO rfl rfl rfl oI dH) rfl rfl rfl)) ?_
  refine cq 8 [0,5] [.hs 180 0 [] 1 0 (r6.map str).length,I (aj (x4.1+1))] 260 ?_
  refine dC ?_
  exact rg [0,3,5] [261,180,3] (ih _ _ h hr hn :)
 ·refine aq 1 ?_
  exact rg [0] [85,2] (hn _ (ak h) :) (hk:=hK)
theorem aad (cI:((List ac)×Condition)→Option (List ac))(l_4:List ac)(c_5:Condition)(r:(List ac))(h:uU cI l_4 c_5=some r):bq (NU cI) Tryz.f136 [true,false] 1 (yg (l_4,c_5)) (yh r):=by
 show Run _ _ (WF cI (l_4,c_5) r) [.code WG] _
 refine rI 28 [(0,.hs 1 0 [] 1 0 (l_4.map str).length),(1,ai c_5)] [(1,some ⟨0,1,l_4.map str⟩)] 2 ?_
 unfold uU at h
 refine ck 12 [3,8] [] [2] [] [.hp 2 0 [] 4 0 0,B (c_5.Op==2)] [some ⟨0,4,[ai c_5]⟩] 82 (by kernel_rfl) ?_
 refine sq h ?_ ?_<;>intro h
 ·refine cq 5 [9,11] [.hs 1 0 [] 1 0 (l_4.map str).length,str c_5.Name] 130 ?_
  obtain⟨r3,hr3,h⟩:=bS h
  refine oq 146 (.hs 130 0 [] 1 0 (r3.map str).length) rfl (bM rfl rfl (b7 rfl rfl rfl (lL (kI rfl (gH (path:=[]) rfl rfl aQ rfl)) (aR (bo rfl) cS)) (NV hr3) (.inr rfl) (jO rfl rfl rfl oI dH) rfl rfl rfl)) ?_
  refine cq 2 [4] [.hs 130 0 [] 1 0 (r3.map str).length] 162 ?_
  obtain rfl:=sI h
  exact ci rfl ⟨_,fin (vs:=[.hs 130 0 [] 1 0 (r3.map str).length]) rfl (fU (fC rfl (cZ rfl rfl)) eg) rfl (mp rfl (rJ rfl) (dh fa)),wJ eW⟩
 ·refine aq 1 ?_
  refine cq 6 [5] [I (0)] 98 ?_
  obtain⟨y7,hy7,hy71,hy72⟩:=bJ h
  refine bV rfl ?_
  refine rg [0,3,5] [99,1,2] (Qo cI l_4 c_5 rfl (0,l_4) _ hy7 (fun r' e st hq=>by rw[hy71 r' e] at hq;exact hq) fun u7 hu=>?_)
  replace h:=hy72 u7 hu
  refine cq 5 [4] [.hs 2 0 [] 1 0 (u7.map str).length] 35 ?_
  obtain rfl:=sI h
  exact ci rfl ⟨_,fin (vs:=[.hs 2 0 [] 1 0 (u7.map str).length]) rfl (fU (fC rfl (cZ rfl rfl)) eg) rfl (mp rfl (rJ rfl) (dh fa)),wJ eW⟩
theorem WH {G:bZ}:bW G 136 DG:=jg fun cI g_Ffeh=>gT 2 1 (aO K4 (aO g_Ffeh bv)) ca Tryz.func136 (fun a r h=>aad cI a.1 a.2 r h)
def HR:Contract→List V:=oA aV
def HS (r:(List ac)):V×List V:=(.usl 1 (r.map str),[])
noncomputable def wg :=bf [false] HR HS fun x=>pS x
theorem WU {c_1:Contract}{r}(h:pS c_1=some r):wg.F (HR c_1)=some (HS r):=aL (aM bc) h
noncomputable def WW :=aG Tryz.f93
noncomputable def N2 :=b9 [(137,wc),(136,DG)]
def WV (x:Contract)(r:(List ac)):St→Prop:=QF N2 Tryz.f93 [false] (HR x) (HS r)
theorem Qu (c_1:Contract):ct N2 0 (WV c_1) (cL (cL (cR (cL (cR (cR WW)))))) 0 (oB c_1) (fun u=>(sT 29 [(3,.hs 1 0 [] 1 0 (u.map str).length)] [⟨0,1,u.map str⟩] 2)) fun x2=>(sT 29 [(1,.hp 1 0 [] 2 0 0),(3,.hs 2 0 [] 1 0 (x2.2.map str).length),(4,I x2.1)] [⟨0,2,[aa c_1]⟩,⟨0,1,x2.2.map str⟩] 3):=ez (Bi c_1) fun {Q K} hK self ih x2 y h hr hn=>by
 unfold mb at h
 refine cq 6 [6,8] [I x2.1,.isl false (c_1.Clauses.map ao)] 51 ?_
 refine oq 67 (I (len c_1.Clauses)) rfl (bA rfl rfl rfl (bR rfl)) ?_
 refine cq 2 [10] [B (decide (x2.1<(len c_1.Clauses)))] 83 ?_
 refine sq h ?_ ?_<;>intro h
 ·refine aq 1 ?_
  refine aq 2 ?_
  refine dV [0,0,2,0,14,30,62,127,0,256,0,1792,3840,7936,16383,32767] rfl (by decide +kernel) ?_
  refine dk 1 [13] [.hs 2 0 [] 1 0 (x2.2.map str).length] ?_
  refine dq [1] [] (.hp 1 0 [] 2 0 1) rfl (an rfl rfl rfl) ?_
  refine dq [1] [] (.isl false (c_1.Clauses.map ao)) rfl (aU rfl rfl) ?_
  refine dk 1 [16] [I x2.1] ?_
  obtain⟨e3,he3,h⟩:=bS h
  refine dq [] [] (.iptr (ap e3) 0) rfl (al rfl rfl rfl (aW rfl rfl rfl rfl he3)) ?_
  refine dq [] [] (.iptr (ap e3) 3) rfl (an rfl rfl rfl) ?_
  refine dq [] [] (str e3.Action) rfl (aU rfl rfl) ?_
  obtain⟨r4,hr4,h⟩:=bS h
  refine dq [2] [2] (.hs 195 0 [] 1 0 (r4.map str).length) rfl (bM rfl rfl (b7 rfl rfl rfl (lL (kI rfl (gH (path:=[]) rfl rfl aQ rfl)) (aR (bo rfl) cS)) (NV hr4) (.inr rfl) (jO rfl rfl rfl oI dH) rfl rfl rfl)) ?_ (dK rfl rfl rfl rfl (lL (kI rfl (gH (path:=[]) rfl rfl aQ rfl)) (aR (bo rfl) cS)) (NV hr4) (.inr rfl) rfl)
  refine dq [1] [] (.hp 1 0 [] 2 0 1) rfl (an rfl rfl rfl) ?_
  refine dq [1] [] (.isl false (c_1.Clauses.map ao)) rfl (aU rfl rfl) ?_
  refine dk 1 [23] [I x2.1] ?_
  obtain⟨e5,he5,h⟩:=bS h
  refine dq [] [] (.iptr (ap e5) 0) rfl (al rfl rfl rfl (aW rfl rfl rfl rfl he5)) ?_
  refine dq [] [] (.iptr (ap e5) 6) rfl (an rfl rfl rfl) ?_
  refine dq [] [] (ai e5.When) rfl (aU rfl rfl) ?_
  obtain⟨r6,hr6,h⟩:=bS h
  refine dq [195] [195] (.hs 307 0 [] 1 0 (r6.map str).length) rfl (bM rfl rfl (b7 rfl rfl rfl (lL (kI rfl (gH (path:=[]) rfl rfl aQ rfl)) (aR (bo rfl) cS)) (WE hr6) (.inr rfl) (jO rfl rfl rfl oI dH) rfl rfl rfl)) ?_ (dK rfl rfl rfl rfl (lL (kI rfl (gH (path:=[]) rfl rfl aQ rfl)) (aR (bo rfl) cS)) (WE hr6) (.inr rfl) rfl)
  refine dk 1 [3] [.hs 307 0 [] 1 0 (r6.map str).length] ?_
  refine de 339 rfl rfl ?_
  refine cq 6 [4] [I (aj (x2.1+1))] 387 ?_
  refine dC ?_
  exact rf [1,3,4] [1,307] (ih _ _ h hr hn :)
 ·refine aq 1 ?_
  exact rf [3] [2] (hn _ (ak h) :) (hk:=hK)
theorem aam (c_1:Contract)(r:(List ac))(h:pS c_1=some r):bq N2 Tryz.f93 [false] 0 (HR c_1) (HS r):=by
 show Run _ _ (WV c_1 r) [.code WW] _
 refine rI 29 [(0,aa c_1)] [] 1 ?_
 unfold pS at h
 refine ck 7 [1] [] [1] [] [.hp 1 0 [] 2 0 0] [some ⟨0,2,[aa c_1]⟩] 33 (by kernel_rfl) ?_
 refine oq 49 (.hs 33 0 [] 1 0 0) rfl (eB rfl (ka (f:=I) (xs:=[]) (z:=str ([])) (es:=[]) (ws:=[]) rfl rfl rfl (by decide) rfl (dR rfl) rfl)) ?_
 refine cq 8 [3,4] [.hs 33 0 [] 1 0 0,I (0)] 81 ?_
 obtain⟨y7,hy7,hy71,hy72⟩:=bJ h
 refine bV rfl ?_
 refine rf [1,3,4] [1,33] (Qu c_1 rfl (0,[]) _ hy7 (fun r' e st hq=>by rw[hy71 r' e] at hq;exact hq) fun u7 hu=>?_)
 replace h:=hy72 u7 hu
 refine cq 5 [2] [.hs 1 0 [] 1 0 (u7.map str).length] 34 ?_
 obtain rfl:=sI h
 exact ci rfl ⟨_,fin (vs:=[.hs 1 0 [] 1 0 (u7.map str).length]) rfl (fU (fC rfl (cZ rfl rfl)) eg) rfl (dh fa),eW⟩
theorem K6 {G:bZ}:bW G 93 wg:=gT 1 0 (aO K4 (aO WH bv)) ca Tryz.func93 (fun a r h=>aam a r h)
def HN:Contract→List V:=oA aV
def HO (r:Bool):V×List V:=(B r,[])
noncomputable def DP :=bf [false] HN HO fun x=>DN x
theorem ago {c_1:Contract}{r}(h:DN c_1=some r):DP.F (HN c_1)=some (HO r):=aL (aM bc) h
noncomputable def HP :=aG Tryz.f43
noncomputable abbrev zG :=cL (cL (cR (cL (cR (cR HP)))))
noncomputable def yw :=b9 [(89,f9),(91,we),(92,DK),(93,wg),(90,DQ)]
def vc (x:Contract)(r:Bool):St→Prop:=QF yw Tryz.f43 [false] (HN x) (HO r)
theorem Qt (c_1:Contract):ct yw 0 (vc c_1) zG 0 (mF c_1) (fun u=>(sT 41 [(1,.hp 1 0 [] 2 0 0)] [⟨0,2,[aa c_1]⟩] 2)) fun x4=>(sT 41 [(1,.hp 1 0 [] 2 0 0),(3,I x4)] [⟨0,2,[aa c_1]⟩] 2):=ez (Bh c_1) fun {Q K} hK self ih x4 y h hr hn=>by
 unfold ma at h
 refine cq 6 [14,16] [I x4,.isl false (c_1.Clauses.map ao)] 50 ?_
 refine oq 66 (I (len c_1.Clauses)) rfl (bA rfl rfl rfl (bR rfl)) ?_
 refine cq 2 [18] [B (decide (x4<(len c_1.Clauses)))] 82 ?_
 refine sq h ?_ ?_<;>intro h
 ·refine aq 1 ?_
  refine aq 3 ?_
  refine dV [0,0,2,0,14,30,62,127,0,511,1023,2047,2047,8191,16383,32767] rfl (by decide +kernel) ?_
  refine dq [1] [] (aa c_1) rfl (aU rfl rfl) ?_
  refine dq [1] [] (.hp 1 0 [] 2 0 1) rfl (an rfl rfl rfl) ?_
  refine dq [1] [] (.isl false (c_1.Clauses.map ao)) rfl (aU rfl rfl) ?_
  refine dk 1 [24] [I x4] ?_
  obtain⟨e5,he5,h⟩:=bS h
  refine dq [] [] (.iptr (ap e5) 0) rfl (al rfl rfl rfl (aW rfl rfl rfl rfl he5)) ?_
  refine dq [] [] (.iptr (ap e5) 0) rfl (an rfl rfl rfl) ?_
  refine dq [] [] (str e5.Id) rfl (aU rfl rfl) ?_
  obtain⟨r6,hr6,h⟩:=bS h
  refine dq [] [] (I r6) rfl (cP (N1 hr6)) ?_ (dK rfl rfl rfl rfl (aR (bo rfl) (aR (bo rfl) cS)) (N1 hr6) (.inr rfl) rfl)
  refine dk 3 [31,30,29] [B (r6 != x4),B (r6 != x4),I x4] ?_
  obtain⟨y7,hy7,hy71,hy72⟩:=bL h
  have j7:∀u7,y7=.inr u7→Run yw 0 Q (.code (cR (cL (cL (cR zG))))::.blk 1::.code (cR (cR zG))::.lp zG::.blk 0::K) (sT 41 [(1,.hp 1 0 [] 2 0 0),(3,I x4),(36,B u7)] [⟨0,2,[aa c_1]⟩] 2):=by
   intro u7 hu
   replace h:=hy72 u7 hu
   refine sq h ?_ ?_<;>intro h
   ·refine cq 4 [2] [B false] 18 ?_
    exact ci rfl (hr _ (ak h) _ (qp [B false]))
   ·refine aq 1 ?_
    refine cq 6 [3] [I (aj (x4+1))] 50 ?_
    refine dC ?_
    exact rf [1,3] [1] (ih _ _ h hr hn :)
  have r7:∀r',y7=.inl r'→∀st,vc c_1 r' st→Q st:=fun r' e st hq=>hr r' (hy71 r' e) st hq
  replace h:=hy7
  refine sp 31 h rfl ?_ ?_<;>intro h
  ·refine dk 5 [36,35,34,33,32] [B true,.und,.und,.und,.und] ?_
   refine de 338 rfl rfl ?_
   exact rf [1,3,36] [1] (j7 _ (ak h) :)
  ·refine dy [1] [] (aa c_1) rfl (aU rfl rfl) ?_
   refine dk 1 [33] [I x4] ?_
   obtain⟨r8,hr8,h⟩:=bS h
   refine dy [] [] (B r8) rfl (cP (WM hr8)) ?_ (dK rfl rfl rfl rfl (aR (bo rfl) (aR (bo rfl) cS)) (WM hr8) (.inr rfl) rfl)
   refine dk 2 [36,35] [B (!r8),B (!r8)] ?_
   refine de 338 rfl rfl ?_
   exact rf [1,3,36] [1] (j7 _ (ak h) :)
 ·refine aq 1 ?_
  exact rf [1] [1] (hn _ (ak h) :) (hk:=hK)
theorem aal (c_1:Contract)(r:Bool)(h:DN c_1=some r):bq yw Tryz.f43 [false] 0 (HN c_1) (HO r):=by
 show Run _ _ (vc c_1 r) [.code HP] _
 refine rI 41 [(0,aa c_1)] [] 1 ?_
 unfold DN at h
 refine ck 10 [1,5] [] [1] [] [.hp 1 0 [] 2 0 0,.isl false (c_1.Clauses.map ao)] [some ⟨0,2,[aa c_1]⟩] 65 (by kernel_rfl) ?_
 refine oq 81 (I (len c_1.Clauses)) rfl (bA rfl rfl rfl (bR rfl)) ?_
 obtain⟨r2,hr2,h⟩:=bS h
 refine oq 97 (B r2) rfl (cP (eK hr2)) ?_
 refine cq 2 [9] [B (!r2)] 129 ?_
 obtain⟨y3,hy3,hy31,hy32⟩:=bJ h
 have j3:∀u3,y3=.inr u3→Run yw 0 (vc c_1 r) (.code (cR (cL (cR HP)))::.code (cR (cR HP))::[]) (sT 41 [(1,.hp 1 0 [] 2 0 0),(13,B u3)] [⟨0,2,[aa c_1]⟩] 2):=by
  intro u3 hu
  replace h:=hy32 u3 hu
  refine sq h ?_ ?_<;>intro h
  ·refine cq 4 [2] [B false] 18 ?_
   obtain rfl:=sI h
   exact rP [B false]
  ·refine aq 1 ?_
   refine cq 6 [3] [I (0)] 18 ?_
   obtain⟨y9,hy9,hy91,hy92⟩:=bJ h
   refine bV rfl ?_
   refine rf [1,3] [1] (Qt c_1 rfl 0 _ hy9 (fun r' e st hq=>by rw[hy91 r' e] at hq;exact hq) fun u9 hu=>?_)
   replace h:=hy92 u9 hu
   refine cq 3 [37] [aa c_1] 18 ?_
   obtain⟨r10,hr10,h⟩:=bS h
   refine oq 34 (.hs 18 0 [] 1 0 (r10.map str).length) rfl (cP (WU hr10)) ?_
   refine oq 50 (I (len r10)) rfl (bA rfl rfl rfl (rD (f:=str) (xs:=r10) rfl rfl)) ?_
   refine cq 3 [2] [B (decide ((len r10)≤16))] 82 ?_
   obtain rfl:=sI h
   exact rP [B (decide ((len r10)≤16))]
 have r3:∀r',y3=.inl r'→∀st,vc c_1 r' st→(vc c_1 r) st:=fun r' e st hq=>by rw[hy31 r' e] at hq;exact hq
 replace h:=hy3
 refine sp 9 h rfl ?_ ?_<;>intro h
 ·refine cq 5 [13] [B true] 193 ?_
  exact rf [1,13] [1] (j3 _ (ak h) :)
 ·refine cq 1 [10] [aa c_1] 145 ?_
  obtain⟨r11,hr11,h⟩:=bS h
  refine oy 161 (B r11) rfl (cP (agp hr11)) ?_
  refine cq 3 [13] [B (!r11)] 193 ?_
  exact rf [1,13] [1] (j3 _ (ak h) :)
theorem WT {G:bZ}:bW G 43 DP:=gT 1 0 (aO gF (aO K5 (aO WN (aO K6 (aO WX bv))))) ca Tryz.func43 (fun a r h=>aal a r h)
def Hk:(List ac)→List V:=oA (fP str)
def Hm (r:Bool):V×List V:=(B r,[])
noncomputable def Dz :=bf [false] Hk Hm fun x=>Dy x
theorem agh {ay:List ac}{r}(h:Dy ay=some r):Dz.F (Hk ay)=some (Hm r):=aL (aM (bC bx)) h
noncomputable def Ws :=aG Tryz.f122
noncomputable abbrev ly :=cL (cL (cR (cL (cR Ws))))
noncomputable def uQ :=b9 [(80,nA)]
def Hl (x:(List ac))(r:Bool):St→Prop:=QF uQ Tryz.f122 [false] (Hk x) (Hm r)
theorem Qk (ay:List ac):ct uQ 0 (Hl ay) ly 0 (jr ay) (fun u=>(sT 39 [(0,.isl false (ay.map str))] [] 1)) fun x2=>(sT 39 [(0,.isl false (ay.map str)),(3,I x2)] [] 1):=ez (A8 ay) fun {Q K} hK self ih x2 y h hr hn=>by
 unfold kE at h
 refine cq 5 [4,5] [I x2,.isl false (ay.map str)] 33 ?_
 refine oq 49 (I (len ay)) rfl (bA rfl rfl rfl (bR rfl)) ?_
 refine cq 2 [8] [B (decide (x2<(len ay)))] 81 ?_
 obtain⟨u3,hu3,h⟩:=lJ h
 have j3:Run uQ 0 Q (.code (cR (cL ly))::.code (cR ly)::.lp ly::.blk 0::K) (sT 39 [(0,.isl false (ay.map str)),(3,I x2),(11,B u3)] [] 1):=by
  refine sq h ?_ ?_<;>intro h
  ·refine aq 1 ?_
   refine aq 3 ?_
   refine dV [0,0,3,7,15,31,63,127,255,511,1023,1023,3071,8191,16383,1023,1023,99327,230399,524287,1048575,2097151] rfl (by decide +kernel) ?_
   refine dk 2 [15,14] [I x2,.isl false (ay.map str)] ?_
   obtain⟨e4,he4,h⟩:=bS h
   refine dq [] [] (.iptr (str e4) 0) rfl (al rfl rfl rfl (aW rfl rfl rfl rfl he4)) ?_
   refine dq [] [] (str e4) rfl (aU rfl rfl) ?_
   obtain⟨r5,hr5,h⟩:=bS h
   refine dq [] [] (B r5) rfl (cP (qE hr5)) ?_ (dK rfl rfl rfl rfl (aR (bo rfl) cS) (qE hr5) (.inr rfl) rfl)
   refine dk 2 [20,19] [B (!r5),B (!r5)] ?_
   obtain⟨y6,hy6,hy61,hy62⟩:=bL h
   have j6:∀u6,y6=.inr u6→Run uQ 0 Q (.code (cR (cL (cL (cR ly))))::.blk 1::.code (cR (cR ly))::.lp ly::.blk 0::K) (sT 39 [(0,.isl false (ay.map str)),(3,I x2),(35,B u6)] [] 1):=by
    intro u6 hu
    replace h:=hy62 u6 hu
    refine sq h ?_ ?_<;>intro h
    ·refine cq 4 [2] [B false] 17 ?_
     exact ci rfl (hr _ (ak h) _ (qp [B false]))
    ·refine aq 1 ?_
     refine cq 6 [3] [I (aj (x2+1))] 49 ?_
     refine dC ?_
     exact rf [0,3] [] (ih _ _ h hr hn :)
   have r6:∀r',y6=.inl r'→∀st,Hl ay r' st→Q st:=fun r' e st hq=>hr r' (hy61 r' e) st hq
   replace h:=hy6
   refine sp 20 h rfl ?_ ?_<;>intro h
   ·refine dk 15 [35,34,33,32,31,30,29,28,27,26,25,24,23,22,21] [B true,.und,.und,.und,.und,.und,.und,.und,.und,.und,.und,.und,.und,.und,.und] ?_
    refine de 353 rfl rfl ?_
    exact rf [0,3,35] [] (j6 _ (ak h) :)
   ·refine dk 3 [23,22,21] [B (decide (x2>0)),B (decide (x2>0)),I x2] ?_
    obtain⟨y7,hy7,hy71,hy72⟩:=bL h
    have j7:∀u7,y7=.inr u7→Run uQ 0 Q (.code (cR (cL (cL (cR ly))))::.blk 1::.code (cR (cR ly))::.lp ly::.blk 0::K) (sT 39 [(0,.isl false (ay.map str)),(3,I x2),(35,B u7)] [] 1):=by
     intro u7 hu
     replace h:=hy72 u7 hu
     exact rf [0,3,35] [] (j6 _ (ak h) :)
    have r7:∀r',y7=.inl r'→∀st,Hl ay r' st→Q st:=fun r' e st hq=>r6 r' (hy71 r' e) st hq
    replace h:=hy7
    refine sp 23 h rfl ?_ ?_<;>intro h
    ·refine dk 3 [26,25,24] [I (aj (x2 - 1)),I x2,.isl false (ay.map str)] ?_
     obtain⟨e8,he8,h⟩:=bS h
     refine dy [] [] (.iptr (str e8) 0) rfl (al rfl rfl rfl (aW rfl rfl rfl rfl he8)) ?_
     refine dy [] [] (str e8) rfl (aU rfl rfl) ?_
     refine dk 2 [30,29] [I x2,.isl false (ay.map str)] ?_
     obtain⟨e9,he9,h⟩:=bS h
     refine dy [] [] (.iptr (str e9) 0) rfl (al rfl rfl rfl (aW rfl rfl rfl rfl he9)) ?_
     refine dy [] [] (str e9) rfl (aU rfl rfl) ?_
     refine dk 3 [35,34,33] [B (!(Op.bytesLess e8 e9)),B (!(Op.bytesLess e8 e9)),B (!(Op.bytesLess e8 e9))] ?_
     refine de 353 rfl rfl ?_
     exact rf [0,3,35] [] (j7 _ (ak h) :)
    ·refine dk 12 [35,34,33,32,31,30,29,28,27,26,25,24] [B false,B false,.und,.und,.und,.und,.und,.und,.und,.und,.und,.und] ?_
     refine de 353 rfl rfl ?_
     exact rf [0,3,35] [] (j7 _ (ak h) :)
  ·refine aq 1 ?_
   exact rf [0] [] (hn _ (ak h) :) (hk:=hK)
 replace h:=hu3
 clear hu3
 refine sp 8 h rfl ?_ ?_<;>intro h
 ·refine cq 4 [11] [B (decide (x2≤16))] 129 ?_
  subst h
  exact rf [0,3,11] [] (j3 :)
 ·refine cq 4 [11] [B false] 129 ?_
  subst h
  exact rf [0,3,11] [] (j3 :)
theorem Z3 (ay:List ac)(r:Bool)(h:Dy ay=some r):bq uQ Tryz.f122 [false] 0 (Hk ay) (Hm r):=by
 show Run _ _ (Hl ay r) [.code Ws] _
 refine rI 39 [(0,.isl false (ay.map str))] [] 1 ?_
 unfold Dy at h
 refine cq 10 [3] [I (0)] 33 ?_
 obtain⟨y10,hy10,hy101,hy102⟩:=bJ h
 refine bV rfl ?_
 refine rf [0,3] [] (Qk ay rfl 0 _ hy10 (fun r' e st hq=>by rw[hy101 r' e] at hq;exact hq) fun u10 hu=>?_)
 replace h:=hy102 u10 hu
 refine cq 3 [36] [.isl false (ay.map str)] 17 ?_
 refine oq 33 (I (len ay)) rfl (bA rfl rfl rfl (bR rfl)) ?_
 refine cq 3 [2] [B (decide ((len ay)≤16))] 65 ?_
 obtain rfl:=sI h
 exact rP [B (decide ((len ay)≤16))]
theorem Wt {G:bZ}:bW G 122 Dz:=gT 1 0 (aO qG bv) ca Tryz.func122 (fun a r h=>Z3 a r h)
def HJ:(Contract×Int)→List V:=cA aV (oA I)
def HK (r:Bool):V×List V:=(B r,[])
noncomputable def DM :=bf [false,false] HJ HK fun x=>DL x.1 x.2
theorem agn {c_1:Contract}{i_2:Int}{r}(h:DL c_1 i_2=some r):DM.F (HJ (c_1,i_2))=some (HK r):=aL (aH bc (aM bd)) h
noncomputable def WP :=aG Tryz.f156
noncomputable def NZ :=b9 []
def WO (x:Contract×Int)(r:Bool):St→Prop:=QF NZ Tryz.f156 [false,false] (HJ x) (HK r)
theorem Qr (c_1:Contract)(i_2:Int):ct NZ 0 (WO (c_1,i_2)) (cL (cL (cR (cL (cR WP))))) 0 (va c_1 i_2) (fun u=>(sT 26 [] [] 1)) fun x3=>(sT 26 [(1,I i_2),(2,.hp 1 0 [] 2 0 0),(5,I x3)] [⟨0,2,[aa c_1]⟩] 2):=ez (Bf c_1 i_2) fun {Q K} hK self ih x3 y h hr hn=>by
 unfold ox at h
 refine cq 6 [6,8] [I x3,.isl false (c_1.Clauses.map ao)] 50 ?_
 refine oq 66 (I (len c_1.Clauses)) rfl (bA rfl rfl rfl (bR rfl)) ?_
 refine cq 2 [10] [B (decide (x3<(len c_1.Clauses)))] 82 ?_
 refine sq h ?_ ?_<;>intro h
 ·refine aq 1 ?_
  refine aq 3 ?_
  refine dV [0,1,0,7,15,31,0,64,0,448,960,1984,4095] rfl (by decide +kernel) ?_
  refine dq [1] [] (.hp 1 0 [] 2 0 1) rfl (an rfl rfl rfl) ?_
  refine dq [1] [] (.isl false (c_1.Clauses.map ao)) rfl (aU rfl rfl) ?_
  refine dk 1 [15] [I x3] ?_
  obtain⟨e4,he4,h⟩:=bS h
  refine dq [] [] (.iptr (ap e4) 0) rfl (al rfl rfl rfl (aW rfl rfl rfl rfl he4)) ?_
  refine dq [] [] (.iptr (ap e4) 11) rfl (an rfl rfl rfl) ?_
  refine dq [] [] (str e4.Repair) rfl (aU rfl rfl) ?_
  refine dq [1] [] (.hp 1 0 [] 2 0 1) rfl (an rfl rfl rfl) ?_
  refine dq [1] [] (.isl false (c_1.Clauses.map ao)) rfl (aU rfl rfl) ?_
  refine dk 1 [21] [I i_2] ?_
  obtain⟨e5,he5,h⟩:=bS h
  refine dq [] [] (.iptr (ap e5) 0) rfl (al rfl rfl rfl (aW rfl rfl rfl rfl he5)) ?_
  refine dq [] [] (.iptr (ap e5) 0) rfl (an rfl rfl rfl) ?_
  refine dq [] [] (str e5.Id) rfl (aU rfl rfl) ?_
  refine dk 1 [25] [B (e4.Repair==e5.Id)] ?_
  refine de 290 rfl rfl ?_
  refine sq h ?_ ?_<;>intro h
  ·refine cq 4 [4] [B true] 306 ?_
   exact ci rfl (hr _ (ak h) _ (qp [B true]))
  ·refine aq 1 ?_
   refine cq 6 [5] [I (aj (x3+1))] 338 ?_
   refine dC ?_
   exact rf [1,2,5] [1] (ih _ _ h hr hn :)
 ·refine aq 1 ?_
  exact rf [] [] (hn _ (ak h) :) (hk:=hK)
theorem aaj (c_1:Contract)(i_2:Int)(r:Bool)(h:DL c_1 i_2=some r):bq NZ Tryz.f156 [false,false] 0 (HJ (c_1,i_2)) (HK r):=by
 show Run _ _ (WO (c_1,i_2) r) [.code WP] _
 refine rI 26 [(0,aa c_1),(1,I i_2)] [] 1 ?_
 unfold DL at h
 refine ck 11 [2,5] [] [1] [] [.hp 1 0 [] 2 0 0,I (0)] [some ⟨0,2,[aa c_1]⟩] 49 (by kernel_rfl) ?_
 obtain⟨y6,hy6,hy61,hy62⟩:=bJ h
 refine bV rfl ?_
 refine rf [1,2,5] [1] (Qr c_1 i_2 rfl 0 _ hy6 (fun r' e st hq=>by rw[hy61 r' e] at hq;exact hq) fun u6 hu=>?_)
 replace h:=hy62 u6 hu
 refine cq 4 [4] [B false] 17 ?_
 obtain rfl:=sI h
 exact rP [B false]
theorem WQ {G:bZ}:bW G 156 DM:=gT 2 0 bv ca Tryz.func156 (fun a r h=>aaj a.1 a.2 r h)
def HY:(State×Int)→List V:=cA bT (oA I)
def H0 (r:Int):V×List V:=(I r,[])
noncomputable def DS :=bf [false,false] HY H0 fun x=>DR x.1 x.2
theorem agq {s_1:State}{i_2:Int}{r}(h:DR s_1 i_2=some r):DS.F (HY (s_1,i_2))=some (H0 r):=aL (aH cb (aM bd)) h
noncomputable def WZ :=aG Tryz.f157
noncomputable abbrev Ke :=cL (cL (cR (cL (cR (cR WZ)))))
noncomputable def HZ :=b9 []
def WY (x:State×Int)(r:Int):St→Prop:=QF HZ Tryz.f157 [false,false] (HY x) (H0 r)
theorem Qw (s_1:State)(i_2:Int):ct HZ 0 (WY (s_1,i_2)) Ke 0 (mG s_1 i_2) (fun u=>(sT 25 [(5,I u)] [] 1)) fun x3=>(sT 25 [(1,I i_2),(2,.hp 1 0 [] 5 0 0),(5,I x3.1),(6,I x3.2)] [⟨0,5,[ae s_1]⟩] 2):=ez (Bk s_1 i_2) fun {Q K} hK self ih x3 y h hr hn=>by
 unfold md at h
 refine cq 6 [7,9] [I x3.2,.isl false (s_1.Duties.map ah)] 50 ?_
 refine oq 66 (I (len s_1.Duties)) rfl (bA rfl rfl rfl (bR rfl)) ?_
 refine cq 2 [11] [B (decide (x3.2<(len s_1.Duties)))] 82 ?_
 refine sq h ?_ ?_<;>intro h
 ·refine aq 1 ?_
  refine cq 7 [15,16] [.isl false (s_1.Duties.map ah),I x3.2] 130 ?_
  obtain⟨e4,he4,h⟩:=bS h
  refine oq 146 (.iptr (ah e4) 0) rfl (al rfl rfl rfl (aW rfl rfl rfl rfl he4)) ?_
  refine cq 5 [21] [B (e4.Clause==i_2)] 210 ?_
  obtain⟨u5,hu5,h⟩:=lJ h
  have j5:Run HZ 0 Q (.blk 1::.code (cR (cR Ke))::.lp Ke::.blk 0::K) (sT 25 [(1,I i_2),(2,.hp 1 0 [] 5 0 0),(5,I u5),(6,I x3.2)] [⟨0,5,[ae s_1]⟩] 2):=by
   refine cq 6 [6] [I (aj (x3.2+1))] 50 ?_
   refine dC ?_
   exact rf [1,2,5,6] [1] (ih _ _ h hr hn :)
  replace h:=hu5
  clear hu5
  refine tG h rfl rfl ?_ ?_<;>intro h
  ·refine cq 5 [5] [I (aj (x3.1+1))] 258 ?_
   subst h
   exact rf [1,2,5,6] [1] (j5 :)
  ·refine aq 1 ?_
   subst h
   exact rf [1,2,5,6] [1] (j5 :)
 ·refine aq 1 ?_
  exact rf [5] [] (hn _ (ak h) :) (hk:=hK)
theorem aao (s_1:State)(i_2:Int)(r:Int)(h:DR s_1 i_2=some r):bq HZ Tryz.f157 [false,false] 0 (HY (s_1,i_2)) (H0 r):=by
 show Run _ _ (WY (s_1,i_2) r) [.code WZ] _
 refine rI 25 [(0,ae s_1),(1,I i_2)] [] 1 ?_
 unfold DR at h
 refine ck 15 [2,5,6] [] [1] [] [.hp 1 0 [] 5 0 0,I (0),I (0)] [some ⟨0,5,[ae s_1]⟩] 65 (by kernel_rfl) ?_
 obtain⟨y6,hy6,hy61,hy62⟩:=bJ h
 refine bV rfl ?_
 refine rf [1,2,5,6] [1] (Qw s_1 i_2 rfl (0,0) _ hy6 (fun r' e st hq=>by rw[hy61 r' e] at hq;exact hq) fun u6 hu=>?_)
 replace h:=hy62 u6 hu
 refine cq 5 [4] [I u6] 33 ?_
 obtain rfl:=sI h
 exact rP [I u6]
theorem W1 {G:bZ}:bW G 157 DS:=gT 2 0 bv ca Tryz.func157 (fun a r h=>aao a.1 a.2 r h)
def H2:(Contract×State×Int)→List V:=cA aV (cA bT (oA I))
def H3 (r:Bool):V×List V:=(B r,[])
noncomputable def DU :=bf [false,false,false] H2 H3 fun x=>DT x.1 x.2.1 x.2.2
theorem agr {c_1:Contract}{s_2:State}{k_3:Int}{r}(h:DT c_1 s_2 k_3=some r):DU.F (H2 (c_1,s_2,k_3))=some (H3 r):=aL (aH bc (aH cb (aM bd))) h
noncomputable def N4 :=aG Tryz.f124
noncomputable abbrev pT :=cR (cR (cR N4))
noncomputable abbrev ve :=cR (cL (cR (cR N4)))
noncomputable abbrev eT :=cR pT
noncomputable abbrev fb :=cR (cL pT)
noncomputable def eI :=b9 [(89,f9),(156,DM),(157,DS),(76,si)]
def dB (x:Contract×State×Int)(r:Bool):St→Prop:=QF eI Tryz.f124 [false,false,false] (H2 x) (H3 r)
theorem aap (c_1:Contract)(s_2:State)(k_3:Int)(r:Bool)(h:DT c_1 s_2 k_3=some r):bq eI Tryz.f124 [false,false,false] 0 (H2 (c_1,s_2,k_3)) (H3 r):=by
 show Run _ _ (dB (c_1,s_2,k_3) r) [.code N4] _
 refine rI 129 [(0,aa c_1),(1,ae s_2),(2,I k_3)] [] 1 ?_
 unfold DT at h
 refine ck 11 [3,4,9,10] [] [1,17] [] [.hp 1 0 [] 2 0 0,.hp 17 0 [] 5 0 0,.isl false (s_2.Duties.map ah),I k_3] [some ⟨0,2,[aa c_1]⟩,some ⟨0,5,[ae s_2]⟩] 97 (by kernel_rfl) ?_
 obtain⟨e4,he4,h⟩:=bS h
 refine oq 113 (.iptr (ah e4) 0) rfl (al rfl rfl rfl (aW rfl rfl rfl rfl he4)) ?_
 refine ck 6 [7] [] [129] [] [.hp 129 0 [] 4 0 0] [some ⟨0,4,[ah e4]⟩] 161 (by kernel_rfl) ?_
 refine dV [0,1,0,4,12,28,63,127,255,511,1023,511,2559,8191,16383,32767,65535,131071,262143,524287,1048575,524287,2621439,8388607,16777215,33554431,67108863,134217727,268435455,134217727,671088639,134217727,2281701375,134217727,8724152319,32346472447,66706210815,135425687551,274475253759,549755813887,1099511627775,2199023255551,4398046511103,8796093022207,17592186044415,35184372088831,70368744177663,140737488355327,281474976710655,562949953421311,1125899906842623,2251799813685247,4503599627370495] rfl (by decide +kernel) ?_
 refine dq [129] [] (.hp 129 0 [] 4 0 0) rfl (an rfl rfl rfl) ?_
 refine dq [129] [] (I e4.Clause) rfl (aU rfl rfl) ?_
 refine dq [1] [] (.hp 1 0 [] 2 0 1) rfl (an rfl rfl rfl) ?_
 refine dq [1] [] (.isl false (c_1.Clauses.map ao)) rfl (aU rfl rfl) ?_
 refine dq [] [] (I (len c_1.Clauses)) rfl (bA rfl rfl rfl (bR rfl)) ?_
 refine dk 1 [18] [I (aj ((len c_1.Clauses) - 1))] ?_
 obtain⟨r5,hr5,h⟩:=bS h
 refine dq [] [] (B r5) rfl (cP (eK hr5)) ?_ (dK rfl rfl rfl rfl (aR (bo rfl) (aR (bo rfl) (aR (bo rfl) cS))) (eK hr5) (.inr rfl) rfl)
 refine dk 2 [21,20] [B (!r5),B (!r5)] ?_
 obtain⟨y6,hy6,hy61,hy62⟩:=bJ h
 have j6:∀u6,y6=.inr u6→Run eI 0 (dB (c_1,s_2,k_3) r) (.code ve::.code pT::[]) (sT 129 [(2,I k_3),(3,.hp 1 0 [] 2 0 0),(4,.hp 2 0 [] 5 0 0),(7,.hp 3 0 [] 4 0 0),(65,B u6)] [⟨0,2,[aa c_1]⟩,⟨0,5,[ae s_2]⟩,⟨0,4,[ah e4]⟩] 4):=by
  intro u6 hu
  replace h:=hy62 u6 hu
  refine sq h ?_ ?_<;>intro h
  ·refine cq 4 [6] [B false] 20 ?_
   obtain rfl:=sI h
   exact rP [B false]
  ·refine aq 1 ?_
   refine aq 2 ?_
   refine dV [0,1,3,7,15,7,39,127,255,511,7,1031,4095,8191,16383,32767,65535,131071,262143,524287,1048575,524287,2621439,8388607,16777215,33554431,67108863,134217727,268435455,536870911,1073741823,2147483647,4294967295,8589934591,17179869183,34359738367,68719476735,34359738367,171798691839,549755813887,1099511627775,2199023255551,4398046511103,8796093022207,17592186044415,35184372088831,70368744177663,140737488355327,281474976710655,562949953421311,1125899906842623,2251799813685247] rfl (by decide +kernel) ?_
   refine dk 3 [68,67,66] [B (decide (k_3>0)),B (decide (k_3>0)),I k_3] ?_
   obtain⟨y7,hy7,hy71,hy72⟩:=bJ h
   have j7:∀u7,y7=.inr u7→Run eI 0 (dB (c_1,s_2,k_3) r) (.code fb::.code eT::[]) (sT 129 [(3,.hp 1 0 [] 2 0 0),(4,.hp 2 0 [] 5 0 0),(7,.hp 3 0 [] 4 0 0),(117,B u7)] [⟨0,2,[aa c_1]⟩,⟨0,5,[ae s_2]⟩,⟨0,4,[ah e4]⟩] 4):=by
    intro u7 hu
    replace h:=hy72 u7 hu
    refine sq h ?_ ?_<;>intro h
    ·refine cq 4 [6] [B false] 20 ?_
     obtain rfl:=sI h
     exact rP [B false]
    ·refine aq 1 ?_
     refine cq 5 [118,120] [aa c_1,I e4.Clause] 52 ?_
     obtain⟨r8,hr8,h⟩:=bS h
     refine oq 68 (B r8) rfl (cP (agn hr8)) ?_
     refine cq 1 [122] [B r8] 84 ?_
     obtain⟨y9,hy9,hy91,hy92⟩:=bJ h
     have j9:∀u9,y9=.inr u9→Run eI 0 (dB (c_1,s_2,k_3) r) (.code (cR eT)::[]) (sT 129 [(6,B u9)] [] 1):=by
      intro u9 hu
      replace h:=hy92 u9 hu
      obtain rfl:=sI h
      exact rP [B u9]
     have r9:∀r',y9=.inl r'→∀st,dB (c_1,s_2,k_3) r' st→(dB (c_1,s_2,k_3) r) st:=fun r' e st hq=>by rw[hy91 r' e] at hq;exact hq
     replace h:=hy9
     refine sp 122 h rfl ?_ ?_<;>intro h
     ·refine cq 8 [6] [B true] 196 ?_
      exact rf [6] [] (j9 _ (ak h) :)
     ·refine cq 3 [123,125] [ae s_2,I e4.Clause] 132 ?_
      obtain⟨r10,hr10,h⟩:=bS h
      refine oy 148 (I r10) rfl (cP (agq hr10)) ?_
      refine cq 4 [6] [B (r10==1)] 196 ?_
      exact rf [6] [] (j9 _ (ak h) :)
   have r7:∀r',y7=.inl r'→∀st,dB (c_1,s_2,k_3) r' st→(dB (c_1,s_2,k_3) r) st:=fun r' e st hq=>by rw[hy71 r' e] at hq;exact hq
   replace h:=hy7
   refine sp 68 h rfl ?_ ?_<;>intro h
   ·refine dy [2] [] (.hp 2 0 [] 5 0 2) rfl (an rfl rfl rfl) ?_
    refine dy [2] [] (.isl false (s_2.Duties.map ah)) rfl (aU rfl rfl) ?_
    refine dk 2 [72,71] [I (aj (k_3 - 1)),I k_3] ?_
    obtain⟨e11,he11,h⟩:=bS h
    refine dy [] [] (.iptr (ah e11) 0) rfl (al rfl rfl rfl (aW rfl rfl rfl rfl he11)) ?_
    refine dy [] [] (.iptr (ah e11) 1) rfl (an rfl rfl rfl) ?_
    refine dy [] [] (I e11.Since) rfl (aU rfl rfl) ?_
    refine dy [3] [] (.hp 3 0 [] 4 0 1) rfl (an rfl rfl rfl) ?_
    refine dy [3] [] (I e4.Since) rfl (aU rfl rfl) ?_
    refine dk 3 [80,79,78] [B (decide (e11.Since>e4.Since)),B (decide (e11.Since>e4.Since)),B (decide (e11.Since>e4.Since))] ?_
    obtain⟨u12,hu12,h⟩:=lJ h
    have j12:Run eI 0 (dB (c_1,s_2,k_3) r) (.code fb::.code eT::[]) (sT 129 [(3,.hp 1 0 [] 2 0 0),(4,.hp 2 0 [] 5 0 0),(7,.hp 3 0 [] 4 0 0),(117,B u12)] [⟨0,2,[aa c_1]⟩,⟨0,5,[ae s_2]⟩,⟨0,4,[ah e4]⟩] 4):=by
     exact rf [3,4,7,117] [1,2,3] (j7 _ (ak h) :)
    replace h:=hu12
    clear hu12
    refine sp 80 h rfl ?_ ?_<;>intro h
    ·refine dk 37 [117,116,115,114,113,112,111,110,109,108,107,106,105,104,103,102,101,100,99,98,97,96,95,94,93,92,91,90,89,88,87,86,85,84,83,82,81] [B true,.und,.und,.und,.und,.und,.und,.und,.und,B true,B true,.und,.und,.und,.und,.und,.und,.und,.und,.und,.und,B true,B true,.und,.und,.und,.und,.und,.und,.und,.und,.und,.und,.und,.und,.und,.und] ?_
     refine de 836 rfl rfl ?_
     subst h
     exact rf [3,4,7,117] [1,2,3] (j12 :)
    ·refine dy [3] [] (.hp 3 0 [] 4 0 3) rfl (an rfl rfl rfl) ?_
     refine dy [3] [] (I e4.Status) rfl (aU rfl rfl) ?_
     refine dk 2 [84,83] [B (e4.Status==1),B (e4.Status==1)] ?_
     obtain⟨u13,hu13,h⟩:=lJ h
     have j13:Run eI 0 (dB (c_1,s_2,k_3) r) (.code fb::.code eT::[]) (sT 129 [(3,.hp 1 0 [] 2 0 0),(4,.hp 2 0 [] 5 0 0),(7,.hp 3 0 [] 4 0 0),(117,B u13)] [⟨0,2,[aa c_1]⟩,⟨0,5,[ae s_2]⟩,⟨0,4,[ah e4]⟩] 4):=by
      subst h
      exact rf [3,4,7,117] [1,2,3] (j12 :)
     replace h:=hu13
     clear hu13
     refine sp 84 h rfl ?_ ?_<;>intro h
     ·refine dy [3] [] (.hp 3 0 [] 4 0 2) rfl (an rfl rfl rfl) ?_
      refine dy [3] [] (I e4.Due) rfl (aU rfl rfl) ?_
      refine dy [2] [] (.hp 2 0 [] 5 0 0) rfl (an rfl rfl rfl) ?_
      refine dy [2] [] (I s_2.Day) rfl (aU rfl rfl) ?_
      refine dk 2 [90,89] [B (decide (e4.Due<s_2.Day)),B (decide (e4.Due<s_2.Day))] ?_
      obtain⟨u14,hu14,h⟩:=lJ h
      have j14:Run eI 0 (dB (c_1,s_2,k_3) r) (.code fb::.code eT::[]) (sT 129 [(3,.hp 1 0 [] 2 0 0),(4,.hp 2 0 [] 5 0 0),(7,.hp 3 0 [] 4 0 0),(117,B u14)] [⟨0,2,[aa c_1]⟩,⟨0,5,[ae s_2]⟩,⟨0,4,[ah e4]⟩] 4):=by
       subst h
       exact rf [3,4,7,117] [1,2,3] (j13 :)
      replace h:=hu14
      clear hu14
      refine sp 90 h rfl ?_ ?_<;>intro h
      ·refine dk 27 [117,116,115,114,113,112,111,110,109,108,107,106,105,104,103,102,101,100,99,98,97,96,95,94,93,92,91] [B true,.und,.und,.und,.und,.und,.und,.und,.und,B true,B true,.und,.und,.und,.und,.und,.und,.und,.und,.und,.und,B true,B true,B true,B true,.und,.und] ?_
       refine de 836 rfl rfl ?_
       subst h
       exact rf [3,4,7,117] [1,2,3] (j14 :)
      ·refine dy [2] [] (.hp 2 0 [] 5 0 4) rfl (an rfl rfl rfl) ?_
       refine dy [2] [] (B s_2.Over) rfl (aU rfl rfl) ?_
       refine dk 4 [96,95,94,93] [B s_2.Over,B s_2.Over,B s_2.Over,B s_2.Over] ?_
       obtain⟨u15,hu15,h⟩:=lJ h
       have j15:Run eI 0 (dB (c_1,s_2,k_3) r) (.code fb::.code eT::[]) (sT 129 [(3,.hp 1 0 [] 2 0 0),(4,.hp 2 0 [] 5 0 0),(7,.hp 3 0 [] 4 0 0),(117,B u15)] [⟨0,2,[aa c_1]⟩,⟨0,5,[ae s_2]⟩,⟨0,4,[ah e4]⟩] 4):=by
        subst h
        exact rf [3,4,7,117] [1,2,3] (j14 :)
       replace h:=hu15
       clear hu15
       refine sp 96 h rfl ?_ ?_<;>intro h
       ·refine dk 21 [117,116,115,114,113,112,111,110,109,108,107,106,105,104,103,102,101,100,99,98,97] [B true,.und,.und,.und,.und,.und,.und,.und,.und,B true,B true,.und,.und,.und,.und,.und,.und,.und,.und,.und,.und] ?_
        refine de 836 rfl rfl ?_
        subst h
        exact rf [3,4,7,117] [1,2,3] (j15 :)
       ·refine dy [3] [] (.hp 3 0 [] 4 0 3) rfl (an rfl rfl rfl) ?_
        refine dy [3] [] (I e4.Status) rfl (aU rfl rfl) ?_
        refine dk 2 [100,99] [B (e4.Status==3),B (e4.Status==3)] ?_
        obtain⟨u16,hu16,h⟩:=lJ h
        have j16:Run eI 0 (dB (c_1,s_2,k_3) r) (.code fb::.code eT::[]) (sT 129 [(3,.hp 1 0 [] 2 0 0),(4,.hp 2 0 [] 5 0 0),(7,.hp 3 0 [] 4 0 0),(117,B u16)] [⟨0,2,[aa c_1]⟩,⟨0,5,[ae s_2]⟩,⟨0,4,[ah e4]⟩] 4):=by
         subst h
         exact rf [3,4,7,117] [1,2,3] (j15 :)
        replace h:=hu16
        clear hu16
        refine sp 100 h rfl ?_ ?_<;>intro h
        ·refine dy [3] [] (.hp 3 0 [] 4 0 2) rfl (an rfl rfl rfl) ?_
         refine dy [3] [] (I e4.Due) rfl (aU rfl rfl) ?_
         refine dy [2] [] (.hp 2 0 [] 5 0 0) rfl (an rfl rfl rfl) ?_
         refine dy [2] [] (I s_2.Day) rfl (aU rfl rfl) ?_
         refine dk 4 [108,107,106,105] [B (decide (e4.Due≥s_2.Day)),B (decide (e4.Due≥s_2.Day)),B (decide (e4.Due≥s_2.Day)),B (decide (e4.Due≥s_2.Day))] ?_
         obtain⟨u17,hu17,h⟩:=lJ h
         have j17:Run eI 0 (dB (c_1,s_2,k_3) r) (.code fb::.code eT::[]) (sT 129 [(3,.hp 1 0 [] 2 0 0),(4,.hp 2 0 [] 5 0 0),(7,.hp 3 0 [] 4 0 0),(117,B u17)] [⟨0,2,[aa c_1]⟩,⟨0,5,[ae s_2]⟩,⟨0,4,[ah e4]⟩] 4):=by
          subst h
          exact rf [3,4,7,117] [1,2,3] (j16 :)
         replace h:=hu17
         clear hu17
         refine sp 108 h rfl ?_ ?_<;>intro h
         ·refine dk 9 [117,116,115,114,113,112,111,110,109] [B true,.und,.und,.und,.und,.und,.und,.und,.und] ?_
          refine de 836 rfl rfl ?_
          subst h
          exact rf [3,4,7,117] [1,2,3] (j17 :)
         ·refine dy [3] [] (.hp 3 0 [] 4 0 3) rfl (an rfl rfl rfl) ?_
          refine dy [3] [] (I e4.Status) rfl (aU rfl rfl) ?_
          refine dk 2 [112,111] [B (e4.Status==4),B (e4.Status==4)] ?_
          obtain⟨u18,hu18,h⟩:=lJ h
          have j18:Run eI 0 (dB (c_1,s_2,k_3) r) (.code fb::.code eT::[]) (sT 129 [(3,.hp 1 0 [] 2 0 0),(4,.hp 2 0 [] 5 0 0),(7,.hp 3 0 [] 4 0 0),(117,B u18)] [⟨0,2,[aa c_1]⟩,⟨0,5,[ae s_2]⟩,⟨0,4,[ah e4]⟩] 4):=by
           subst h
           exact rf [3,4,7,117] [1,2,3] (j17 :)
          replace h:=hu18
          clear hu18
          refine sp 112 h rfl ?_ ?_<;>intro h
          ·refine dy [2] [] (.hp 2 0 [] 5 0 4) rfl (an rfl rfl rfl) ?_
           refine dy [2] [] (B s_2.Over) rfl (aU rfl rfl) ?_
           refine dk 3 [117,116,115] [B (!s_2.Over),B (!s_2.Over),B (!s_2.Over)] ?_
           refine de 836 rfl rfl ?_
           subst h
           exact rf [3,4,7,117] [1,2,3] (j18 :)
          ·refine dk 5 [117,116,115,114,113] [B false,B false,.und,.und,.und] ?_
           refine de 836 rfl rfl ?_
           subst h
           exact rf [3,4,7,117] [1,2,3] (j18 :)
        ·refine dk 8 [108,107,106,105,104,103,102,101] [B false,B false,B false,.und,.und,.und,.und,.und] ?_
         refine dy [3] [] (.hp 3 0 [] 4 0 3) rfl (an rfl rfl rfl) ?_
         refine dy [3] [] (I e4.Status) rfl (aU rfl rfl) ?_
         refine dk 2 [112,111] [B (e4.Status==4),B (e4.Status==4)] ?_
         obtain⟨u19,hu19,h⟩:=lJ h
         have j19:Run eI 0 (dB (c_1,s_2,k_3) r) (.code fb::.code eT::[]) (sT 129 [(3,.hp 1 0 [] 2 0 0),(4,.hp 2 0 [] 5 0 0),(7,.hp 3 0 [] 4 0 0),(117,B u19)] [⟨0,2,[aa c_1]⟩,⟨0,5,[ae s_2]⟩,⟨0,4,[ah e4]⟩] 4):=by
          subst h
          exact rf [3,4,7,117] [1,2,3] (j16 :)
         replace h:=hu19
         clear hu19
         refine sp 112 h rfl ?_ ?_<;>intro h
         ·refine dy [2] [] (.hp 2 0 [] 5 0 4) rfl (an rfl rfl rfl) ?_
          refine dy [2] [] (B s_2.Over) rfl (aU rfl rfl) ?_
          refine dk 3 [117,116,115] [B (!s_2.Over),B (!s_2.Over),B (!s_2.Over)] ?_
          refine de 836 rfl rfl ?_
          subst h
          exact rf [3,4,7,117] [1,2,3] (j19 :)
         ·refine dk 5 [117,116,115,114,113] [B false,B false,.und,.und,.und] ?_
          refine de 836 rfl rfl ?_
          subst h
          exact rf [3,4,7,117] [1,2,3] (j19 :)
     ·refine dk 12 [96,95,94,93,92,91,90,89,88,87,86,85] [B false,B false,B false,.und,.und,.und,.und,.und,.und,.und,.und,.und] ?_
      refine dy [3] [] (.hp 3 0 [] 4 0 3) rfl (an rfl rfl rfl) ?_
      refine dy [3] [] (I e4.Status) rfl (aU rfl rfl) ?_
      refine dk 2 [100,99] [B (e4.Status==3),B (e4.Status==3)] ?_
      obtain⟨u20,hu20,h⟩:=lJ h
      have j20:Run eI 0 (dB (c_1,s_2,k_3) r) (.code fb::.code eT::[]) (sT 129 [(3,.hp 1 0 [] 2 0 0),(4,.hp 2 0 [] 5 0 0),(7,.hp 3 0 [] 4 0 0),(117,B u20)] [⟨0,2,[aa c_1]⟩,⟨0,5,[ae s_2]⟩,⟨0,4,[ah e4]⟩] 4):=by
       subst h
       exact rf [3,4,7,117] [1,2,3] (j13 :)
      replace h:=hu20
      clear hu20
      refine sp 100 h rfl ?_ ?_<;>intro h
      ·refine dy [3] [] (.hp 3 0 [] 4 0 2) rfl (an rfl rfl rfl) ?_
       refine dy [3] [] (I e4.Due) rfl (aU rfl rfl) ?_
       refine dy [2] [] (.hp 2 0 [] 5 0 0) rfl (an rfl rfl rfl) ?_
       refine dy [2] [] (I s_2.Day) rfl (aU rfl rfl) ?_
       refine dk 4 [108,107,106,105] [B (decide (e4.Due≥s_2.Day)),B (decide (e4.Due≥s_2.Day)),B (decide (e4.Due≥s_2.Day)),B (decide (e4.Due≥s_2.Day))] ?_
       obtain⟨u21,hu21,h⟩:=lJ h
       have j21:Run eI 0 (dB (c_1,s_2,k_3) r) (.code fb::.code eT::[]) (sT 129 [(3,.hp 1 0 [] 2 0 0),(4,.hp 2 0 [] 5 0 0),(7,.hp 3 0 [] 4 0 0),(117,B u21)] [⟨0,2,[aa c_1]⟩,⟨0,5,[ae s_2]⟩,⟨0,4,[ah e4]⟩] 4):=by
        subst h
        exact rf [3,4,7,117] [1,2,3] (j20 :)
       replace h:=hu21
       clear hu21
       refine sp 108 h rfl ?_ ?_<;>intro h
       ·refine dk 9 [117,116,115,114,113,112,111,110,109] [B true,.und,.und,.und,.und,.und,.und,.und,.und] ?_
        refine de 836 rfl rfl ?_
        subst h
        exact rf [3,4,7,117] [1,2,3] (j21 :)
       ·refine dy [3] [] (.hp 3 0 [] 4 0 3) rfl (an rfl rfl rfl) ?_
        refine dy [3] [] (I e4.Status) rfl (aU rfl rfl) ?_
        refine dk 2 [112,111] [B (e4.Status==4),B (e4.Status==4)] ?_
        obtain⟨u22,hu22,h⟩:=lJ h
        have j22:Run eI 0 (dB (c_1,s_2,k_3) r) (.code fb::.code eT::[]) (sT 129 [(3,.hp 1 0 [] 2 0 0),(4,.hp 2 0 [] 5 0 0),(7,.hp 3 0 [] 4 0 0),(117,B u22)] [⟨0,2,[aa c_1]⟩,⟨0,5,[ae s_2]⟩,⟨0,4,[ah e4]⟩] 4):=by
         subst h
         exact rf [3,4,7,117] [1,2,3] (j21 :)
        replace h:=hu22
        clear hu22
        refine sp 112 h rfl ?_ ?_<;>intro h
        ·refine dy [2] [] (.hp 2 0 [] 5 0 4) rfl (an rfl rfl rfl) ?_
         refine dy [2] [] (B s_2.Over) rfl (aU rfl rfl) ?_
         refine dk 3 [117,116,115] [B (!s_2.Over),B (!s_2.Over),B (!s_2.Over)] ?_
         refine de 836 rfl rfl ?_
         subst h
         exact rf [3,4,7,117] [1,2,3] (j22 :)
        ·refine dk 5 [117,116,115,114,113] [B false,B false,.und,.und,.und] ?_
         refine de 836 rfl rfl ?_
         subst h
         exact rf [3,4,7,117] [1,2,3] (j22 :)
      ·refine dk 8 [108,107,106,105,104,103,102,101] [B false,B false,B false,.und,.und,.und,.und,.und] ?_
       refine dy [3] [] (.hp 3 0 [] 4 0 3) rfl (an rfl rfl rfl) ?_
       refine dy [3] [] (I e4.Status) rfl (aU rfl rfl) ?_
       refine dk 2 [112,111] [B (e4.Status==4),B (e4.Status==4)] ?_
       obtain⟨u23,hu23,h⟩:=lJ h
       have j23:Run eI 0 (dB (c_1,s_2,k_3) r) (.code fb::.code eT::[]) (sT 129 [(3,.hp 1 0 [] 2 0 0),(4,.hp 2 0 [] 5 0 0),(7,.hp 3 0 [] 4 0 0),(117,B u23)] [⟨0,2,[aa c_1]⟩,⟨0,5,[ae s_2]⟩,⟨0,4,[ah e4]⟩] 4):=by
        subst h
        exact rf [3,4,7,117] [1,2,3] (j20 :)
       replace h:=hu23
       clear hu23
       refine sp 112 h rfl ?_ ?_<;>intro h
       ·refine dy [2] [] (.hp 2 0 [] 5 0 4) rfl (an rfl rfl rfl) ?_
        refine dy [2] [] (B s_2.Over) rfl (aU rfl rfl) ?_
        refine dk 3 [117,116,115] [B (!s_2.Over),B (!s_2.Over),B (!s_2.Over)] ?_
        refine de 836 rfl rfl ?_
        subst h
        exact rf [3,4,7,117] [1,2,3] (j23 :)
       ·refine dk 5 [117,116,115,114,113] [B false,B false,.und,.und,.und] ?_
        refine de 836 rfl rfl ?_
        subst h
        exact rf [3,4,7,117] [1,2,3] (j23 :)
   ·refine dk 12 [80,79,78,77,76,75,74,73,72,71,70,69] [B false,B false,.und,.und,.und,.und,.und,.und,.und,.und,.und,.und] ?_
    refine dy [3] [] (.hp 3 0 [] 4 0 3) rfl (an rfl rfl rfl) ?_
    refine dy [3] [] (I e4.Status) rfl (aU rfl rfl) ?_
    refine dk 2 [84,83] [B (e4.Status==1),B (e4.Status==1)] ?_
    obtain⟨u24,hu24,h⟩:=lJ h
    have j24:Run eI 0 (dB (c_1,s_2,k_3) r) (.code fb::.code eT::[]) (sT 129 [(3,.hp 1 0 [] 2 0 0),(4,.hp 2 0 [] 5 0 0),(7,.hp 3 0 [] 4 0 0),(117,B u24)] [⟨0,2,[aa c_1]⟩,⟨0,5,[ae s_2]⟩,⟨0,4,[ah e4]⟩] 4):=by
     exact rf [3,4,7,117] [1,2,3] (j7 _ (ak h) :)
    replace h:=hu24
    clear hu24
    refine sp 84 h rfl ?_ ?_<;>intro h
    ·refine dy [3] [] (.hp 3 0 [] 4 0 2) rfl (an rfl rfl rfl) ?_
     refine dy [3] [] (I e4.Due) rfl (aU rfl rfl) ?_
     refine dy [2] [] (.hp 2 0 [] 5 0 0) rfl (an rfl rfl rfl) ?_
     refine dy [2] [] (I s_2.Day) rfl (aU rfl rfl) ?_
     refine dk 2 [90,89] [B (decide (e4.Due<s_2.Day)),B (decide (e4.Due<s_2.Day))] ?_
     obtain⟨u25,hu25,h⟩:=lJ h
     have j25:Run eI 0 (dB (c_1,s_2,k_3) r) (.code fb::.code eT::[]) (sT 129 [(3,.hp 1 0 [] 2 0 0),(4,.hp 2 0 [] 5 0 0),(7,.hp 3 0 [] 4 0 0),(117,B u25)] [⟨0,2,[aa c_1]⟩,⟨0,5,[ae s_2]⟩,⟨0,4,[ah e4]⟩] 4):=by
      subst h
      exact rf [3,4,7,117] [1,2,3] (j24 :)
     replace h:=hu25
     clear hu25
     refine sp 90 h rfl ?_ ?_<;>intro h
     ·refine dk 27 [117,116,115,114,113,112,111,110,109,108,107,106,105,104,103,102,101,100,99,98,97,96,95,94,93,92,91] [B true,.und,.und,.und,.und,.und,.und,.und,.und,B true,B true,.und,.und,.und,.und,.und,.und,.und,.und,.und,.und,B true,B true,B true,B true,.und,.und] ?_
      refine de 836 rfl rfl ?_
      subst h
      exact rf [3,4,7,117] [1,2,3] (j25 :)
     ·refine dy [2] [] (.hp 2 0 [] 5 0 4) rfl (an rfl rfl rfl) ?_
      refine dy [2] [] (B s_2.Over) rfl (aU rfl rfl) ?_
      refine dk 4 [96,95,94,93] [B s_2.Over,B s_2.Over,B s_2.Over,B s_2.Over] ?_
      obtain⟨u26,hu26,h⟩:=lJ h
      have j26:Run eI 0 (dB (c_1,s_2,k_3) r) (.code fb::.code eT::[]) (sT 129 [(3,.hp 1 0 [] 2 0 0),(4,.hp 2 0 [] 5 0 0),(7,.hp 3 0 [] 4 0 0),(117,B u26)] [⟨0,2,[aa c_1]⟩,⟨0,5,[ae s_2]⟩,⟨0,4,[ah e4]⟩] 4):=by
       subst h
       exact rf [3,4,7,117] [1,2,3] (j25 :)
      replace h:=hu26
      clear hu26
      refine sp 96 h rfl ?_ ?_<;>intro h
      ·refine dk 21 [117,116,115,114,113,112,111,110,109,108,107,106,105,104,103,102,101,100,99,98,97] [B true,.und,.und,.und,.und,.und,.und,.und,.und,B true,B true,.und,.und,.und,.und,.und,.und,.und,.und,.und,.und] ?_
       refine de 836 rfl rfl ?_
       subst h
       exact rf [3,4,7,117] [1,2,3] (j26 :)
      ·refine dy [3] [] (.hp 3 0 [] 4 0 3) rfl (an rfl rfl rfl) ?_
       refine dy [3] [] (I e4.Status) rfl (aU rfl rfl) ?_
       refine dk 2 [100,99] [B (e4.Status==3),B (e4.Status==3)] ?_
       obtain⟨u27,hu27,h⟩:=lJ h
       have j27:Run eI 0 (dB (c_1,s_2,k_3) r) (.code fb::.code eT::[]) (sT 129 [(3,.hp 1 0 [] 2 0 0),(4,.hp 2 0 [] 5 0 0),(7,.hp 3 0 [] 4 0 0),(117,B u27)] [⟨0,2,[aa c_1]⟩,⟨0,5,[ae s_2]⟩,⟨0,4,[ah e4]⟩] 4):=by
        subst h
        exact rf [3,4,7,117] [1,2,3] (j26 :)
       replace h:=hu27
       clear hu27
       refine sp 100 h rfl ?_ ?_<;>intro h
       ·refine dy [3] [] (.hp 3 0 [] 4 0 2) rfl (an rfl rfl rfl) ?_
        refine dy [3] [] (I e4.Due) rfl (aU rfl rfl) ?_
        refine dy [2] [] (.hp 2 0 [] 5 0 0) rfl (an rfl rfl rfl) ?_
        refine dy [2] [] (I s_2.Day) rfl (aU rfl rfl) ?_
        refine dk 4 [108,107,106,105] [B (decide (e4.Due≥s_2.Day)),B (decide (e4.Due≥s_2.Day)),B (decide (e4.Due≥s_2.Day)),B (decide (e4.Due≥s_2.Day))] ?_
        obtain⟨u28,hu28,h⟩:=lJ h
        have j28:Run eI 0 (dB (c_1,s_2,k_3) r) (.code fb::.code eT::[]) (sT 129 [(3,.hp 1 0 [] 2 0 0),(4,.hp 2 0 [] 5 0 0),(7,.hp 3 0 [] 4 0 0),(117,B u28)] [⟨0,2,[aa c_1]⟩,⟨0,5,[ae s_2]⟩,⟨0,4,[ah e4]⟩] 4):=by
         subst h
         exact rf [3,4,7,117] [1,2,3] (j27 :)
        replace h:=hu28
        clear hu28
        refine sp 108 h rfl ?_ ?_<;>intro h
        ·refine dk 9 [117,116,115,114,113,112,111,110,109] [B true,.und,.und,.und,.und,.und,.und,.und,.und] ?_
         refine de 836 rfl rfl ?_
         subst h
         exact rf [3,4,7,117] [1,2,3] (j28 :)
        ·refine dy [3] [] (.hp 3 0 [] 4 0 3) rfl (an rfl rfl rfl) ?_
         refine dy [3] [] (I e4.Status) rfl (aU rfl rfl) ?_
         refine dk 2 [112,111] [B (e4.Status==4),B (e4.Status==4)] ?_
         obtain⟨u29,hu29,h⟩:=lJ h
         have j29:Run eI 0 (dB (c_1,s_2,k_3) r) (.code fb::.code eT::[]) (sT 129 [(3,.hp 1 0 [] 2 0 0),(4,.hp 2 0 [] 5 0 0),(7,.hp 3 0 [] 4 0 0),(117,B u29)] [⟨0,2,[aa c_1]⟩,⟨0,5,[ae s_2]⟩,⟨0,4,[ah e4]⟩] 4):=by
          subst h
          exact rf [3,4,7,117] [1,2,3] (j28 :)
         replace h:=hu29
         clear hu29
         refine sp 112 h rfl ?_ ?_<;>intro h
         ·refine dy [2] [] (.hp 2 0 [] 5 0 4) rfl (an rfl rfl rfl) ?_
          refine dy [2] [] (B s_2.Over) rfl (aU rfl rfl) ?_
          refine dk 3 [117,116,115] [B (!s_2.Over),B (!s_2.Over),B (!s_2.Over)] ?_
          refine de 836 rfl rfl ?_
          subst h
          exact rf [3,4,7,117] [1,2,3] (j29 :)
         ·refine dk 5 [117,116,115,114,113] [B false,B false,.und,.und,.und] ?_
          refine de 836 rfl rfl ?_
          subst h
          exact rf [3,4,7,117] [1,2,3] (j29 :)
       ·refine dk 8 [108,107,106,105,104,103,102,101] [B false,B false,B false,.und,.und,.und,.und,.und] ?_
        refine dy [3] [] (.hp 3 0 [] 4 0 3) rfl (an rfl rfl rfl) ?_
        refine dy [3] [] (I e4.Status) rfl (aU rfl rfl) ?_
        refine dk 2 [112,111] [B (e4.Status==4),B (e4.Status==4)] ?_
        obtain⟨u30,hu30,h⟩:=lJ h
        have j30:Run eI 0 (dB (c_1,s_2,k_3) r) (.code fb::.code eT::[]) (sT 129 [(3,.hp 1 0 [] 2 0 0),(4,.hp 2 0 [] 5 0 0),(7,.hp 3 0 [] 4 0 0),(117,B u30)] [⟨0,2,[aa c_1]⟩,⟨0,5,[ae s_2]⟩,⟨0,4,[ah e4]⟩] 4):=by
         subst h
         exact rf [3,4,7,117] [1,2,3] (j27 :)
        replace h:=hu30
        clear hu30
        refine sp 112 h rfl ?_ ?_<;>intro h
        ·refine dy [2] [] (.hp 2 0 [] 5 0 4) rfl (an rfl rfl rfl) ?_
         refine dy [2] [] (B s_2.Over) rfl (aU rfl rfl) ?_
         refine dk 3 [117,116,115] [B (!s_2.Over),B (!s_2.Over),B (!s_2.Over)] ?_
         refine de 836 rfl rfl ?_
         subst h
         exact rf [3,4,7,117] [1,2,3] (j30 :)
        ·refine dk 5 [117,116,115,114,113] [B false,B false,.und,.und,.und] ?_
         refine de 836 rfl rfl ?_
         subst h
         exact rf [3,4,7,117] [1,2,3] (j30 :)
    ·refine dk 12 [96,95,94,93,92,91,90,89,88,87,86,85] [B false,B false,B false,.und,.und,.und,.und,.und,.und,.und,.und,.und] ?_
     refine dy [3] [] (.hp 3 0 [] 4 0 3) rfl (an rfl rfl rfl) ?_
     refine dy [3] [] (I e4.Status) rfl (aU rfl rfl) ?_
     refine dk 2 [100,99] [B (e4.Status==3),B (e4.Status==3)] ?_
     obtain⟨u31,hu31,h⟩:=lJ h
     have j31:Run eI 0 (dB (c_1,s_2,k_3) r) (.code fb::.code eT::[]) (sT 129 [(3,.hp 1 0 [] 2 0 0),(4,.hp 2 0 [] 5 0 0),(7,.hp 3 0 [] 4 0 0),(117,B u31)] [⟨0,2,[aa c_1]⟩,⟨0,5,[ae s_2]⟩,⟨0,4,[ah e4]⟩] 4):=by
      subst h
      exact rf [3,4,7,117] [1,2,3] (j24 :)
     replace h:=hu31
     clear hu31
     refine sp 100 h rfl ?_ ?_<;>intro h
     ·refine dy [3] [] (.hp 3 0 [] 4 0 2) rfl (an rfl rfl rfl) ?_
      refine dy [3] [] (I e4.Due) rfl (aU rfl rfl) ?_
      refine dy [2] [] (.hp 2 0 [] 5 0 0) rfl (an rfl rfl rfl) ?_
      refine dy [2] [] (I s_2.Day) rfl (aU rfl rfl) ?_
      refine dk 4 [108,107,106,105] [B (decide (e4.Due≥s_2.Day)),B (decide (e4.Due≥s_2.Day)),B (decide (e4.Due≥s_2.Day)),B (decide (e4.Due≥s_2.Day))] ?_
      obtain⟨u32,hu32,h⟩:=lJ h
      have j32:Run eI 0 (dB (c_1,s_2,k_3) r) (.code fb::.code eT::[]) (sT 129 [(3,.hp 1 0 [] 2 0 0),(4,.hp 2 0 [] 5 0 0),(7,.hp 3 0 [] 4 0 0),(117,B u32)] [⟨0,2,[aa c_1]⟩,⟨0,5,[ae s_2]⟩,⟨0,4,[ah e4]⟩] 4):=by
       subst h
       exact rf [3,4,7,117] [1,2,3] (j31 :)
      replace h:=hu32
      clear hu32
      refine sp 108 h rfl ?_ ?_<;>intro h
      ·refine dk 9 [117,116,115,114,113,112,111,110,109] [B true,.und,.und,.und,.und,.und,.und,.und,.und] ?_
       refine de 836 rfl rfl ?_
       subst h
       exact rf [3,4,7,117] [1,2,3] (j32 :)
      ·refine dy [3] [] (.hp 3 0 [] 4 0 3) rfl (an rfl rfl rfl) ?_
       refine dy [3] [] (I e4.Status) rfl (aU rfl rfl) ?_
       refine dk 2 [112,111] [B (e4.Status==4),B (e4.Status==4)] ?_
       obtain⟨u33,hu33,h⟩:=lJ h
       have j33:Run eI 0 (dB (c_1,s_2,k_3) r) (.code fb::.code eT::[]) (sT 129 [(3,.hp 1 0 [] 2 0 0),(4,.hp 2 0 [] 5 0 0),(7,.hp 3 0 [] 4 0 0),(117,B u33)] [⟨0,2,[aa c_1]⟩,⟨0,5,[ae s_2]⟩,⟨0,4,[ah e4]⟩] 4):=by
        subst h
        exact rf [3,4,7,117] [1,2,3] (j32 :)
       replace h:=hu33
       clear hu33
       refine sp 112 h rfl ?_ ?_<;>intro h
       ·refine dy [2] [] (.hp 2 0 [] 5 0 4) rfl (an rfl rfl rfl) ?_
        refine dy [2] [] (B s_2.Over) rfl (aU rfl rfl) ?_
        refine dk 3 [117,116,115] [B (!s_2.Over),B (!s_2.Over),B (!s_2.Over)] ?_
        refine de 836 rfl rfl ?_
        subst h
        exact rf [3,4,7,117] [1,2,3] (j33 :)
       ·refine dk 5 [117,116,115,114,113] [B false,B false,.und,.und,.und] ?_
        refine de 836 rfl rfl ?_
        subst h
        exact rf [3,4,7,117] [1,2,3] (j33 :)
     ·refine dk 8 [108,107,106,105,104,103,102,101] [B false,B false,B false,.und,.und,.und,.und,.und] ?_
      refine dy [3] [] (.hp 3 0 [] 4 0 3) rfl (an rfl rfl rfl) ?_
      refine dy [3] [] (I e4.Status) rfl (aU rfl rfl) ?_
      refine dk 2 [112,111] [B (e4.Status==4),B (e4.Status==4)] ?_
      obtain⟨u34,hu34,h⟩:=lJ h
      have j34:Run eI 0 (dB (c_1,s_2,k_3) r) (.code fb::.code eT::[]) (sT 129 [(3,.hp 1 0 [] 2 0 0),(4,.hp 2 0 [] 5 0 0),(7,.hp 3 0 [] 4 0 0),(117,B u34)] [⟨0,2,[aa c_1]⟩,⟨0,5,[ae s_2]⟩,⟨0,4,[ah e4]⟩] 4):=by
       subst h
       exact rf [3,4,7,117] [1,2,3] (j31 :)
      replace h:=hu34
      clear hu34
      refine sp 112 h rfl ?_ ?_<;>intro h
      ·refine dy [2] [] (.hp 2 0 [] 5 0 4) rfl (an rfl rfl rfl) ?_
       refine dy [2] [] (B s_2.Over) rfl (aU rfl rfl) ?_
       refine dk 3 [117,116,115] [B (!s_2.Over),B (!s_2.Over),B (!s_2.Over)] ?_
       refine de 836 rfl rfl ?_
       subst h
       exact rf [3,4,7,117] [1,2,3] (j34 :)
      ·refine dk 5 [117,116,115,114,113] [B false,B false,.und,.und,.und] ?_
       refine de 836 rfl rfl ?_
       subst h
       exact rf [3,4,7,117] [1,2,3] (j34 :)
 have r6:∀r',y6=.inl r'→∀st,dB (c_1,s_2,k_3) r' st→(dB (c_1,s_2,k_3) r) st:=fun r' e st hq=>by rw[hy61 r' e] at hq;exact hq
 replace h:=hy6
 refine sp 21 h rfl ?_ ?_<;>intro h
 ·refine dk 44 [65,64,63,62,61,60,59,58,57,56,55,54,53,52,51,50,49,48,47,46,45,44,43,42,41,40,39,38,37,36,35,34,33,32,31,30,29,28,27,26,25,24,23,22] [B true,.und,.und,.und,.und,B true,B true,.und,.und,.und,.und,B true,B true,.und,.und,.und,.und,.und,.und,.und,.und,.und,.und,.und,.und,.und,B true,B true,.und,.und,.und,.und,.und,.und,B true,B true,.und,.und,.und,.und,.und,.und,.und,.und] ?_
  refine de 1009 rfl rfl ?_
  exact rf [2,3,4,7,65] [1,17,129] (j6 _ (ak h) :)
 ·refine dy [1] [] (.hp 1 0 [] 2 0 1) rfl (an rfl rfl rfl) ?_
  refine dy [1] [] (.isl false (c_1.Clauses.map ao)) rfl (aU rfl rfl) ?_
  refine dy [129] [] (.hp 129 0 [] 4 0 0) rfl (an rfl rfl rfl) ?_
  refine dy [129] [] (I e4.Clause) rfl (aU rfl rfl) ?_
  obtain⟨e35,he35,h⟩:=bS h
  refine dy [] [] (.iptr (ap e35) 0) rfl (al rfl rfl rfl (aW rfl rfl rfl rfl he35)) ?_
  refine dy [] [] (.iptr (ap e35) 1) rfl (an rfl rfl rfl) ?_
  refine dy [] [] (I e35.Kind) rfl (aU rfl rfl) ?_
  refine dk 3 [31,30,29] [B (e35.Kind != 1),B (e35.Kind != 1),B (e35.Kind != 1)] ?_
  obtain⟨y36,hy36,hy361,hy362⟩:=bL h
  have j36:∀u36,y36=.inr u36→Run eI 0 (dB (c_1,s_2,k_3) r) (.code ve::.code pT::[]) (sT 129 [(2,I k_3),(3,.hp 1 0 [] 2 0 0),(4,.hp 2 0 [] 5 0 0),(7,.hp 3 0 [] 4 0 0),(65,B u36)] [⟨0,2,[aa c_1]⟩,⟨0,5,[ae s_2]⟩,⟨0,4,[ah e4]⟩] 4):=by
   intro u36 hu
   replace h:=hy362 u36 hu
   exact rf [2,3,4,7,65] [1,2,3] (j6 _ (ak h) :)
  have r36:∀r',y36=.inl r'→∀st,dB (c_1,s_2,k_3) r' st→(dB (c_1,s_2,k_3) r) st:=fun r' e st hq=>r6 r' (hy361 r' e) st hq
  replace h:=hy36
  refine sp 31 h rfl ?_ ?_<;>intro h
  ·refine dk 34 [65,64,63,62,61,60,59,58,57,56,55,54,53,52,51,50,49,48,47,46,45,44,43,42,41,40,39,38,37,36,35,34,33,32] [B true,.und,.und,.und,.und,B true,B true,.und,.und,.und,.und,B true,B true,.und,.und,.und,.und,.und,.und,.und,.und,.und,.und,.und,.und,.und,B true,B true,.und,.und,.und,.und,.und,.und] ?_
   refine de 1009 rfl rfl ?_
   exact rf [2,3,4,7,65] [1,17,129] (j36 _ (ak h) :)
  ·refine dy [129] [] (.hp 129 0 [] 4 0 1) rfl (an rfl rfl rfl) ?_
   refine dy [129] [] (I e4.Since) rfl (aU rfl rfl) ?_
   refine dy [17] [] (.hp 17 0 [] 5 0 0) rfl (an rfl rfl rfl) ?_
   refine dy [17] [] (I s_2.Day) rfl (aU rfl rfl) ?_
   obtain⟨r37,hr37,h⟩:=bS h
   refine dy [] [] (B r37) rfl (cP (eK hr37)) ?_ (dK rfl rfl rfl rfl (aR (bo rfl) (aR (bo rfl) (aR (bo rfl) cS))) (eK hr37) (.inr rfl) rfl)
   refine dk 3 [39,38,37] [B (!r37),B (!r37),B (!r37)] ?_
   obtain⟨y38,hy38,hy381,hy382⟩:=bL h
   have j38:∀u38,y38=.inr u38→Run eI 0 (dB (c_1,s_2,k_3) r) (.code ve::.code pT::[]) (sT 129 [(2,I k_3),(3,.hp 1 0 [] 2 0 0),(4,.hp 2 0 [] 5 0 0),(7,.hp 3 0 [] 4 0 0),(65,B u38)] [⟨0,2,[aa c_1]⟩,⟨0,5,[ae s_2]⟩,⟨0,4,[ah e4]⟩] 4):=by
    intro u38 hu
    replace h:=hy382 u38 hu
    exact rf [2,3,4,7,65] [1,2,3] (j36 _ (ak h) :)
   have r38:∀r',y38=.inl r'→∀st,dB (c_1,s_2,k_3) r' st→(dB (c_1,s_2,k_3) r) st:=fun r' e st hq=>r36 r' (hy381 r' e) st hq
   replace h:=hy38
   refine sp 39 h rfl ?_ ?_<;>intro h
   ·refine dk 26 [65,64,63,62,61,60,59,58,57,56,55,54,53,52,51,50,49,48,47,46,45,44,43,42,41,40] [B true,.und,.und,.und,.und,B true,B true,.und,.und,.und,.und,B true,B true,.und,.und,.und,.und,.und,.und,.und,.und,.und,.und,.und,.und,.und] ?_
    refine de 1009 rfl rfl ?_
    exact rf [2,3,4,7,65] [1,17,129] (j38 _ (ak h) :)
   ·refine dy [129] [] (.hp 129 0 [] 4 0 2) rfl (an rfl rfl rfl) ?_
    refine dy [129] [] (I e4.Due) rfl (aU rfl rfl) ?_
    refine dy [129] [] (.hp 129 0 [] 4 0 1) rfl (an rfl rfl rfl) ?_
    refine dy [129] [] (I e4.Since) rfl (aU rfl rfl) ?_
    refine dy [1] [] (.hp 1 0 [] 2 0 1) rfl (an rfl rfl rfl) ?_
    refine dy [1] [] (.isl false (c_1.Clauses.map ao)) rfl (aU rfl rfl) ?_
    refine dy [129] [] (.hp 129 0 [] 4 0 0) rfl (an rfl rfl rfl) ?_
    refine dy [129] [] (I e4.Clause) rfl (aU rfl rfl) ?_
    obtain⟨e39,he39,h⟩:=bS h
    refine dy [] [] (.iptr (ap e39) 0) rfl (al rfl rfl rfl (aW rfl rfl rfl rfl he39)) ?_
    refine dy [] [] (.iptr (ap e39) 10) rfl (an rfl rfl rfl) ?_
    refine dy [] [] (I e39.Within) rfl (aU rfl rfl) ?_
    refine dk 4 [54,53,52,51] [B (e4.Due != (aj (e4.Since+e39.Within))),B (e4.Due != (aj (e4.Since+e39.Within))),B (e4.Due != (aj (e4.Since+e39.Within))),I (aj (e4.Since+e39.Within))] ?_
    obtain⟨y40,hy40,hy401,hy402⟩:=bL h
    have j40:∀u40,y40=.inr u40→Run eI 0 (dB (c_1,s_2,k_3) r) (.code ve::.code pT::[]) (sT 129 [(2,I k_3),(3,.hp 1 0 [] 2 0 0),(4,.hp 2 0 [] 5 0 0),(7,.hp 3 0 [] 4 0 0),(65,B u40)] [⟨0,2,[aa c_1]⟩,⟨0,5,[ae s_2]⟩,⟨0,4,[ah e4]⟩] 4):=by
     intro u40 hu
     replace h:=hy402 u40 hu
     exact rf [2,3,4,7,65] [1,2,3] (j38 _ (ak h) :)
    have r40:∀r',y40=.inl r'→∀st,dB (c_1,s_2,k_3) r' st→(dB (c_1,s_2,k_3) r) st:=fun r' e st hq=>r38 r' (hy401 r' e) st hq
    replace h:=hy40
    refine sp 54 h rfl ?_ ?_<;>intro h
    ·refine dk 11 [65,64,63,62,61,60,59,58,57,56,55] [B true,.und,.und,.und,.und,B true,B true,.und,.und,.und,.und] ?_
     refine de 1009 rfl rfl ?_
     exact rf [2,3,4,7,65] [1,17,129] (j40 _ (ak h) :)
    ·refine dy [129] [] (.hp 129 0 [] 4 0 2) rfl (an rfl rfl rfl) ?_
     refine dy [129] [] (I e4.Due) rfl (aU rfl rfl) ?_
     obtain⟨r41,hr41,h⟩:=bS h
     refine dy [] [] (B r41) rfl (cP (Hi hr41)) ?_ (dK rfl rfl rfl rfl (aR (bo rfl) cS) (Hi hr41) (.inr rfl) rfl)
     refine dk 3 [60,59,58] [B (!r41),B (!r41),B (!r41)] ?_
     obtain⟨y42,hy42,hy421,hy422⟩:=bL h
     have j42:∀u42,y42=.inr u42→Run eI 0 (dB (c_1,s_2,k_3) r) (.code ve::.code pT::[]) (sT 129 [(2,I k_3),(3,.hp 1 0 [] 2 0 0),(4,.hp 2 0 [] 5 0 0),(7,.hp 3 0 [] 4 0 0),(65,B u42)] [⟨0,2,[aa c_1]⟩,⟨0,5,[ae s_2]⟩,⟨0,4,[ah e4]⟩] 4):=by
      intro u42 hu
      replace h:=hy422 u42 hu
      exact rf [2,3,4,7,65] [1,2,3] (j40 _ (ak h) :)
     have r42:∀r',y42=.inl r'→∀st,dB (c_1,s_2,k_3) r' st→(dB (c_1,s_2,k_3) r) st:=fun r' e st hq=>r40 r' (hy421 r' e) st hq
     replace h:=hy42
     refine sp 60 h rfl ?_ ?_<;>intro h
     ·refine dk 5 [65,64,63,62,61] [B true,.und,.und,.und,.und] ?_
      refine de 1009 rfl rfl ?_
      exact rf [2,3,4,7,65] [1,17,129] (j42 _ (ak h) :)
     ·refine dy [129] [] (.hp 129 0 [] 4 0 3) rfl (an rfl rfl rfl) ?_
      refine dy [129] [] (I e4.Status) rfl (aU rfl rfl) ?_
      obtain⟨r43,hr43,h⟩:=bS h
      refine dy [] [] (B r43) rfl (cP (eK hr43)) ?_ (dK rfl rfl rfl rfl (aR (bo rfl) (aR (bo rfl) (aR (bo rfl) cS))) (eK hr43) (.inr rfl) rfl)
      refine dk 2 [65,64] [B (!r43),B (!r43)] ?_
      refine de 1009 rfl rfl ?_
      exact rf [2,3,4,7,65] [1,17,129] (j42 _ (ak h) :)
theorem W2 {G:bZ}:bW G 124 DU:=gT 3 0 (aO gF (aO WQ (aO W1 (aO xW bv)))) ca Tryz.func124 (fun a r h=>aap a.1 a.2.1 a.2.2 r h)
def Hc:Int→List V:=oA I
def Hd (r:Bool):V×List V:=(B r,[])
noncomputable def Dw :=bf [false] Hc Hd fun x=>Dv x
theorem aga {x_1:Int}{r}(h:Dv x_1=some r):Dw.F (Hc x_1)=some (Hd r):=aL (aM bd) h
noncomputable def agc :=aG Tryz.f125
noncomputable def Wm :=b9 [(89,f9)]
def agb (x:Int)(r:Bool):St→Prop:=QF Wm Tryz.f125 [false] (Hc x) (Hd r)
theorem ZZ (x_1:Int)(r:Bool)(h:Dv x_1=some r):bq Wm Tryz.f125 [false] 0 (Hc x_1) (Hd r):=by
 show Run _ _ (agb x_1 r) [.code agc] _
 refine rI 5 [(0,I x_1)] [] 1 ?_
 unfold Dv at h
 refine cq 7 [3] [I x_1] 33 ?_
 obtain⟨r2,hr2,h⟩:=bS h
 refine oq 49 (B r2) rfl (cP (eK hr2)) ?_
 refine cq 2 [2] [B r2] 65 ?_
 obtain rfl:=sI h
 exact rP [B r2]
theorem Wn {G:bZ}:bW G 125 Dw:=gT 1 0 (aO gF bv) ca Tryz.func125 (fun a r h=>ZZ a r h)
def He:(List Int)→List V:=oA (fP I)
def Hf (r:Int):V×List V:=(I r,[])
noncomputable def Dx :=bf [false] He Hf fun x=>wa x
theorem agd {ay:List Int}{r}(h:wa ay=some r):Dx.F (He ay)=some (Hf r):=aL (aM (bC bd)) h
noncomputable def Wp :=aG Tryz.f126
noncomputable def NO :=b9 []
def Wo (x:(List Int))(r:Int):St→Prop:=QF NO Tryz.f126 [false] (He x) (Hf r)
theorem Qj (ay:List Int):ct NO 0 (Wo ay) (cL (cL (cR (cL (cR (cR Wp)))))) 0 (lx ay) (fun u=>(sT 18 [(3,I u)] [] 1)) fun x2=>(sT 18 [(0,.isl false (ay.map I)),(3,I x2.1),(4,I x2.2)] [] 1):=ez (A7 ay) fun {Q K} hK self ih x2 y h hr hn=>by
 unfold l3 at h
 refine cq 5 [5,6] [I x2.2,.isl false (ay.map I)] 33 ?_
 refine oq 49 (I (len ay)) rfl (bA rfl rfl rfl (bR rfl)) ?_
 refine cq 2 [8] [B (decide (x2.2<(len ay)))] 65 ?_
 refine sq h ?_ ?_<;>intro h
 ·refine aq 1 ?_
  refine cq 6 [11,12,13] [I x2.1,.isl false (ay.map I),I x2.2] 113 ?_
  obtain⟨e3,he3,h⟩:=bS h
  refine oq 129 (.iptr (I e3) 0) rfl (al rfl rfl rfl (aW rfl rfl rfl rfl he3)) ?_
  refine cq 10 [3,4] [I (aj (x2.1+e3)),I (aj (x2.2+1))] 225 ?_
  refine dC ?_
  exact rf [0,3,4] [] (ih _ _ h hr hn :)
 ·refine aq 1 ?_
  exact rf [3] [] (hn _ (ak h) :) (hk:=hK)
theorem Z0 (ay:List Int)(r:Int)(h:wa ay=some r):bq NO Tryz.f126 [false] 0 (He ay) (Hf r):=by
 show Run _ _ (Wo ay r) [.code Wp] _
 refine rI 18 [(0,.isl false (ay.map I))] [] 1 ?_
 unfold wa at h
 refine cq 14 [3,4] [I (0),I (0)] 49 ?_
 obtain⟨y4,hy4,hy41,hy42⟩:=bJ h
 refine bV rfl ?_
 refine rf [0,3,4] [] (Qj ay rfl (0,0) _ hy4 (fun r' e st hq=>by rw[hy41 r' e] at hq;exact hq) fun u4 hu=>?_)
 replace h:=hy42 u4 hu
 refine cq 5 [2] [I u4] 33 ?_
 obtain rfl:=sI h
 exact rP [I u4]
theorem Wq {G:bZ}:bW G 126 Dx:=gT 1 0 bv ca Tryz.func126 (fun a r h=>Z0 a r h)
def H4:(Contract×State)→List V:=cA aV (oA bT)
def H5 (r:Bool):V×List V:=(B r,[])
noncomputable def DV :=bf [false,false] H4 H5 fun x=>ss x.1 x.2
theorem ags {c_1:Contract}{s_2:State}{r}(h:ss c_1 s_2=some r):DV.F (H4 (c_1,s_2))=some (H5 r):=aL (aH bc (aM cb)) h
noncomputable def ld :=aG Tryz.f75
noncomputable def oZ :=b9 [(43,DP),(93,wg),(123,sk),(124,DU),(125,Dw),(126,Dx),(76,si),(122,Dz)]
def lc (x:Contract×State)(r:Bool):St→Prop:=QF oZ Tryz.f75 [false,false] (H4 x) (H5 r)
theorem Qx (c_1:Contract)(s_2:State)(r5:(List ac)):ct oZ 0 (lc (c_1,s_2)) (cL (cL (cR (cL (cR (cR (cR ld))))))) 0 (vf c_1 s_2 r5) (fun u=>(sT 86 [(2,.hp 1 0 [] 2 0 0),(3,.hp 2 0 [] 5 0 0)] [⟨0,2,[aa c_1]⟩,⟨0,5,[ae s_2]⟩] 3)) fun x6=>(sT 86 [(2,.hp 1 0 [] 2 0 0),(3,.hp 2 0 [] 5 0 0),(5,.hs 3 0 [] 1 0 (r5.map str).length),(6,I x6)] [⟨0,2,[aa c_1]⟩,⟨0,5,[ae s_2]⟩,⟨0,1,r5.map str⟩] 4):=ez (Bl c_1 s_2 r5) fun {Q K} hK self ih x6 y h hr hn=>by
 unfold oC at h
 refine cq 6 [41,43] [I x6,.isl false (s_2.Facts.map str)] 52 ?_
 refine oq 68 (I (len s_2.Facts)) rfl (bA rfl rfl rfl (bR rfl)) ?_
 refine cq 2 [45] [B (decide (x6<(len s_2.Facts)))] 84 ?_
 refine sq h ?_ ?_<;>intro h
 ·refine aq 1 ?_
  refine cq 8 [48,50,51] [.hs 3 0 [] 1 0 (r5.map str).length,.isl false (s_2.Facts.map str),I x6] 148 ?_
  obtain⟨e7,he7,h⟩:=bS h
  refine oq 164 (.iptr (str e7) 0) rfl (al rfl rfl rfl (aW rfl rfl rfl rfl he7)) ?_
  refine cq 1 [53] [str e7] 180 ?_
  obtain⟨r8,hr8,h⟩:=bS h
  refine oq 196 (B r8) rfl (bM rfl rfl (b7 rfl rfl rfl (aR (BI rfl rfl (fT (f:=str) (g:=str) (xs:=r5) rfl rfl (bX fy))) (aR (bo rfl) cS)) (Ht hr8) (.inl rfl) dH rfl rfl rfl)) ?_
  refine cq 2 [55] [B (!r8)] 212 ?_
  refine sq h ?_ ?_<;>intro h
  ·refine cq 4 [4] [B false] 228 ?_
   exact ci rfl (hr _ (ak h) _ (qp [B false]))
  ·refine aq 1 ?_
   refine cq 6 [6] [I (aj (x6+1))] 260 ?_
   refine dC ?_
   exact rf [2,3,5,6] [1,2,3] (ih _ _ h hr hn :)
 ·refine aq 1 ?_
  exact rf [2,3] [1,2] (hn _ (ak h) :) (hk:=hK)
theorem Qy (c_1:Contract)(s_2:State):ct oZ 0 (lc (c_1,s_2)) (cL (cL (cR (cL (cR (cR (cR (cR ld)))))))) 2 (oD c_1 s_2) (fun u=>(sT 86 [(3,.hp 1 0 [] 5 0 0)] [⟨0,5,[ae s_2]⟩] 2)) fun x10=>(sT 86 [(2,.hp 1 0 [] 2 0 0),(3,.hp 2 0 [] 5 0 0),(7,I x10)] [⟨0,2,[aa c_1]⟩,⟨0,5,[ae s_2]⟩] 3):=ez (Bm c_1 s_2) fun {Q K} hK self ih x10 y h hr hn=>by
 unfold me at h
 refine cq 6 [56,58] [I x10,.isl false (s_2.Duties.map ah)] 51 ?_
 refine oq 67 (I (len s_2.Duties)) rfl (bA rfl rfl rfl (bR rfl)) ?_
 refine cq 2 [60] [B (decide (x10<(len s_2.Duties)))] 83 ?_
 refine sq h ?_ ?_<;>intro h
 ·refine aq 1 ?_
  refine cq 7 [63,64,65] [aa c_1,ae s_2,I x10] 131 ?_
  obtain⟨r11,hr11,h⟩:=bS h
  refine oq 147 (B r11) rfl (cP (agr hr11)) ?_
  refine cq 2 [67] [B (!r11)] 163 ?_
  refine sq h ?_ ?_<;>intro h
  ·refine cq 4 [4] [B false] 179 ?_
   exact ci rfl (hr _ (ak h) _ (qp [B false]))
  ·refine aq 1 ?_
   refine cq 6 [7] [I (aj (x10+1))] 211 ?_
   refine dC ?_
   exact rf [2,3,7] [1,2] (ih _ _ h hr hn :)
 ·refine aq 1 ?_
  exact rf [3] [2] (hn _ (ak h) :) (hk:=hK)
theorem Qz (c_1:Contract)(s_2:State):ct oZ 0 (lc (c_1,s_2)) (cL (cL (cR (cL (cR (cR (cR (cR (cR ld))))))))) 4 (vg c_1 s_2) (fun u=>(sT 86 [(3,.hp 1 0 [] 5 0 0)] [⟨0,5,[ae s_2]⟩] 2)) fun x13=>(sT 86 [(3,.hp 1 0 [] 5 0 0),(8,I x13)] [⟨0,5,[ae s_2]⟩] 2):=ez (Bn c_1 s_2) fun {Q K} hK self ih x13 y h hr hn=>by
 unfold oE at h
 refine cq 6 [68,70] [I x13,.isl false (s_2.Balances.map I)] 50 ?_
 refine oq 66 (I (len s_2.Balances)) rfl (bA rfl rfl rfl (bR rfl)) ?_
 refine cq 2 [72] [B (decide (x13<(len s_2.Balances)))] 82 ?_
 refine sq h ?_ ?_<;>intro h
 ·refine aq 1 ?_
  refine cq 7 [76,77] [.isl false (s_2.Balances.map I),I x13] 130 ?_
  obtain⟨e14,he14,h⟩:=bS h
  refine oq 146 (.iptr (I e14) 0) rfl (al rfl rfl rfl (aW rfl rfl rfl rfl he14)) ?_
  refine cq 1 [79] [I e14] 162 ?_
  obtain⟨r15,hr15,h⟩:=bS h
  refine oq 178 (B r15) rfl (cP (aga hr15)) ?_
  refine cq 2 [81] [B (!r15)] 194 ?_
  refine sq h ?_ ?_<;>intro h
  ·refine cq 4 [4] [B false] 210 ?_
   exact ci rfl (hr _ (ak h) _ (qp [B false]))
  ·refine aq 1 ?_
   refine cq 6 [8] [I (aj (x13+1))] 242 ?_
   refine dC ?_
   exact rf [3,8] [1] (ih _ _ h hr hn :)
 ·refine aq 1 ?_
  exact rf [3] [1] (hn _ (ak h) :) (hk:=hK)
theorem aaq (c_1:Contract)(s_2:State)(r:Bool)(h:ss c_1 s_2=some r):bq oZ Tryz.f75 [false,false] 0 (H4 (c_1,s_2)) (H5 r):=by
 show Run _ _ (lc (c_1,s_2) r) [.code ld] _
 refine rI 86 [(0,aa c_1),(1,ae s_2)] [] 1 ?_
 unfold ss at h
 refine ck 10 [2,3,9] [] [1,17] [] [.hp 1 0 [] 2 0 0,.hp 17 0 [] 5 0 0,aa c_1] [some ⟨0,2,[aa c_1]⟩,some ⟨0,5,[ae s_2]⟩] 65 (by kernel_rfl) ?_
 obtain⟨r3,hr3,h⟩:=bS h
 refine oq 81 (B r3) rfl (cP (ago hr3)) ?_
 refine cq 2 [12] [B (!r3)] 113 ?_
 obtain⟨y4,hy4,hy41,hy42⟩:=bJ h
 have j4:∀u4,y4=.inr u4→Run oZ 0 (lc (c_1,s_2) r) (.code (cR (cL (cR ld)))::.code (cR (cR ld))::[]) (sT 86 [(2,.hp 1 0 [] 2 0 0),(3,.hp 2 0 [] 5 0 0),(38,B u4)] [⟨0,2,[aa c_1]⟩,⟨0,5,[ae s_2]⟩] 3):=by
  intro u4 hu
  replace h:=hy42 u4 hu
  refine sq h ?_ ?_<;>intro h
  ·refine cq 4 [4] [B false] 19 ?_
   obtain rfl:=sI h
   exact rP [B false]
  ·refine aq 1 ?_
   refine cq 3 [39] [aa c_1] 19 ?_
   obtain⟨r5,hr5,h⟩:=bS h
   refine oq 35 (.hs 19 0 [] 1 0 (r5.map str).length) rfl (cP (WU hr5)) ?_
   refine cq 8 [5,6] [.hs 19 0 [] 1 0 (r5.map str).length,I (0)] 67 ?_
   obtain⟨y9,hy9,hy91,hy92⟩:=bJ h
   refine bV rfl ?_
   refine rf [2,3,5,6] [1,2,19] (Qx c_1 s_2 r5 rfl 0 _ hy9 (fun r' e st hq=>by rw[hy91 r' e] at hq;exact hq) fun u9 hu=>?_)
   replace h:=hy92 u9 hu
   refine cq 6 [7] [I (0)] 19 ?_
   obtain⟨y12,hy12,hy121,hy122⟩:=bJ h
   refine bV rfl ?_
   refine rf [2,3,7] [1,2] (Qy c_1 s_2 rfl 0 _ hy12 (fun r' e st hq=>by rw[hy121 r' e] at hq;exact hq) fun u12 hu=>?_)
   replace h:=hy122 u12 hu
   refine cq 6 [8] [I (0)] 18 ?_
   obtain⟨y16,hy16,hy161,hy162⟩:=bJ h
   refine bV rfl ?_
   refine rf [3,8] [1] (Qz c_1 s_2 rfl 0 _ hy16 (fun r' e st hq=>by rw[hy161 r' e] at hq;exact hq) fun u16 hu=>?_)
   replace h:=hy162 u16 hu
   refine cq 4 [83] [.isl false (s_2.Balances.map I)] 34 ?_
   obtain⟨r17,hr17,h⟩:=bS h
   refine oq 50 (I r17) rfl (cP (agd hr17)) ?_
   refine cq 3 [4] [B (r17==0)] 82 ?_
   obtain rfl:=sI h
   exact rP [B (r17==0)]
 have r4:∀r',y4=.inl r'→∀st,lc (c_1,s_2) r' st→(lc (c_1,s_2) r) st:=fun r' e st hq=>by rw[hy41 r' e] at hq;exact hq
 replace h:=hy4
 refine sp 12 h rfl ?_ ?_<;>intro h
 ·refine cq 27 [38] [B true] 529 ?_
  exact rf [2,3,38] [1,17] (j4 _ (ak h) :)
 ·refine cq 2 [14] [I s_2.Day] 145 ?_
  obtain⟨r18,hr18,h⟩:=bS h
  refine oy 161 (B r18) rfl (cP (Hi hr18)) ?_
  refine cq 3 [18] [B (!r18)] 209 ?_
  obtain⟨y19,hy19,hy191,hy192⟩:=bL h
  have j19:∀u19,y19=.inr u19→Run oZ 0 (lc (c_1,s_2) r) (.code (cR (cL (cR ld)))::.code (cR (cR ld))::[]) (sT 86 [(2,.hp 1 0 [] 2 0 0),(3,.hp 2 0 [] 5 0 0),(38,B u19)] [⟨0,2,[aa c_1]⟩,⟨0,5,[ae s_2]⟩] 3):=by
   intro u19 hu
   replace h:=hy192 u19 hu
   exact rf [2,3,38] [1,2] (j4 _ (ak h) :)
  have r19:∀r',y19=.inl r'→∀st,lc (c_1,s_2) r' st→(lc (c_1,s_2) r) st:=fun r' e st hq=>r4 r' (hy191 r' e) st hq
  replace h:=hy19
  refine sp 18 h rfl ?_ ?_<;>intro h
  ·refine cq 21 [38] [B true] 529 ?_
   exact rf [2,3,38] [1,17] (j19 _ (ak h) :)
  ·refine cq 2 [20] [.isl false (s_2.Facts.map str)] 241 ?_
   obtain⟨r20,hr20,h⟩:=bS h
   refine oy 257 (B r20) rfl (cP (agh hr20)) ?_
   refine cq 3 [24] [B (!r20)] 305 ?_
   obtain⟨u21,hu21,h⟩:=lJ h
   have j21:Run oZ 0 (lc (c_1,s_2) r) (.code (cR (cL (cR ld)))::.code (cR (cR ld))::[]) (sT 86 [(2,.hp 1 0 [] 2 0 0),(3,.hp 2 0 [] 5 0 0),(38,B u21)] [⟨0,2,[aa c_1]⟩,⟨0,5,[ae s_2]⟩] 3):=by
    exact rf [2,3,38] [1,2] (j19 _ (ak h) :)
   replace h:=hu21
   clear hu21
   refine sp 24 h rfl ?_ ?_<;>intro h
   ·refine cq 15 [38] [B true] 529 ?_
    subst h
    exact rf [2,3,38] [1,17] (j21 :)
   ·refine cq 2 [26] [.isl false (s_2.Duties.map ah)] 337 ?_
    refine oy 353 (I (len s_2.Duties)) rfl (bA rfl rfl rfl (bR rfl)) ?_
    refine cq 3 [30] [B (decide ((len s_2.Duties)>24))] 401 ?_
    obtain⟨u22,hu22,h⟩:=lJ h
    have j22:Run oZ 0 (lc (c_1,s_2) r) (.code (cR (cL (cR ld)))::.code (cR (cR ld))::[]) (sT 86 [(2,.hp 1 0 [] 2 0 0),(3,.hp 2 0 [] 5 0 0),(38,B u22)] [⟨0,2,[aa c_1]⟩,⟨0,5,[ae s_2]⟩] 3):=by
     subst h
     exact rf [2,3,38] [1,2] (j21 :)
    replace h:=hu22
    clear hu22
    refine sp 30 h rfl ?_ ?_<;>intro h
    ·refine cq 9 [38] [B true] 529 ?_
     subst h
     exact rf [2,3,38] [1,17] (j22 :)
    ·refine cq 2 [32] [.isl false (s_2.Balances.map I)] 433 ?_
     refine oy 449 (I (len s_2.Balances)) rfl (bA rfl rfl rfl (bR rfl)) ?_
     refine cq 2 [35] [.isl false (c_1.Parties.map str)] 481 ?_
     refine oy 497 (I (len c_1.Parties)) rfl (bA rfl rfl rfl (bR rfl)) ?_
     refine cq 3 [38] [B ((len s_2.Balances) != (len c_1.Parties))] 529 ?_
     subst h
     exact rf [2,3,38] [1,17] (j22 :)
theorem W3 {G:bZ}:bW G 75 DV:=gT 2 0 (aO WT (aO K6 (aO yb (aO W2 (aO Wn (aO Wq (aO xW (aO Wt bv)))))))) ca Tryz.func75 (fun a r h=>aaq a.1 a.2 r h)
def G5:(Contract×State×Int)→List V:=cA aV (cA bT (oA I))
def G7 (r:Bool):V×List V:=(B r,[])
noncomputable def Dt :=bf [false,false,false] G5 G7 fun x=>Ds x.1 x.2.1 x.2.2
theorem af8 {c_1:Contract}{s_2:State}{aD:Int}{r}(h:Ds c_1 s_2 aD=some r):Dt.F (G5 (c_1,s_2,aD))=some (G7 r):=aL (aH bc (aH cb (aM bd))) h
noncomputable def Wi :=aG Tryz.f65
noncomputable def NM :=b9 [(75,DV),(89,f9)]
def G6 (x:Contract×State×Int)(r:Bool):St→Prop:=QF NM Tryz.f65 [false,false,false] (G5 x) (G7 r)
theorem ZX (c_1:Contract)(s_2:State)(aD:Int)(r:Bool)(h:Ds c_1 s_2 aD=some r):bq NM Tryz.f65 [false,false,false] 0 (G5 (c_1,s_2,aD)) (G7 r):=by
 show Run _ _ (G6 (c_1,s_2,aD) r) [.code Wi] _
 refine rI 18 [(0,aa c_1),(1,ae s_2),(2,I aD)] [] 1 ?_
 unfold Ds at h
 refine ck 10 [3,7,8] [] [1] [] [.hp 1 0 [] 2 0 0,aa c_1,ae s_2] [some ⟨0,2,[aa c_1]⟩] 81 (by kernel_rfl) ?_
 obtain⟨r4,hr4,h⟩:=bS h
 refine oq 97 (B r4) rfl (cP (ags hr4)) ?_
 refine cq 1 [10] [B r4] 113 ?_
 obtain⟨y5,hy5,hy51,hy52⟩:=bJ h
 have j5:∀u5,y5=.inr u5→Run NM 0 (G6 (c_1,s_2,aD) r) (.code (cR (cR Wi))::[]) (sT 18 [(6,B u5)] [] 1):=by
  intro u5 hu
  replace h:=hy52 u5 hu
  obtain rfl:=sI h
  exact rP [B u5]
 have r5:∀r',y5=.inl r'→∀st,G6 (c_1,s_2,aD) r' st→(G6 (c_1,s_2,aD) r) st:=fun r' e st hq=>by rw[hy51 r' e] at hq;exact hq
 replace h:=hy5
 refine sp 10 h rfl ?_ ?_<;>intro h
 ·refine cq 3 [11,13] [I aD,.isl false (c_1.Parties.map str)] 161 ?_
  refine oy 177 (I (len c_1.Parties)) rfl (bA rfl rfl rfl (bR rfl)) ?_
  refine cq 1 [15] [I (aj ((len c_1.Parties) - 1))] 193 ?_
  obtain⟨r6,hr6,h⟩:=bS h
  refine oy 209 (B r6) rfl (cP (eK hr6)) ?_
  refine cq 3 [6] [B r6] 241 ?_
  exact rf [6] [] (j5 _ (ak h) :)
 ·refine cq 9 [6] [B false] 241 ?_
  exact rf [6] [] (j5 _ (ak h) :)
theorem Wj {G:bZ}:bW G 65 Dt:=gT 3 0 (aO W3 (aO gF bv)) ca Tryz.func65 (fun a r h=>ZX a.1 a.2.1 a.2.2 r h)
def G8:(State×(List Int)×Int)→List V:=cA bT (cA (fP I) (oA I))
def Ha (r:(List Int)):V×List V:=(.usl 1 (r.map I),[])
noncomputable def Du :=bf [false,false,false] G8 Ha fun x=>v8 x.1 x.2.1 x.2.2
theorem af9 {s_1:State}{dT:List Int}{k_3:Int}{r}(h:v8 s_1 dT k_3=some r):Du.F (G8 (s_1,dT,k_3))=some (Ha r):=aL (aH cb (aH (bC bd) (aM bd))) h
noncomputable def xV :=aG Tryz.f114
noncomputable def G9 :=b9 []
def NN (x:State×(List Int)×Int)(r:(List Int)):St→Prop:=QF G9 Tryz.f114 [false,false,false] (G8 x) (Ha r)
theorem Qi (s_1:State)(dT:List Int)(k_3:Int):ct G9 0 (NN (s_1,dT,k_3)) (cL (cL (cL (cR (cR xV))))) 0 (pR s_1 dT k_3) (fun u=>(sT 45 [(1,.isl false (dT.map I)),(2,I k_3),(7,I u)] [] 1)) fun x4=>(sT 45 [(1,.isl false (dT.map I)),(2,I k_3),(3,.hp 1 0 [] 5 0 0),(7,I x4)] [⟨0,5,[ae s_1]⟩] 2):=ez (A6 s_1 dT k_3) fun {Q K} hK self ih x4 y h hr hn=>by
 unfold lZ at h
 refine aq 2 ?_
 refine dV [0,1,3,7,15,7,7,71,231,487,1023,2047,4095,7,8199,7,57351,122887,253959,524287,1048575] rfl (by decide +kernel) ?_
 refine dk 3 [12,11,10] [B (decide (x4>0)),B (decide (x4>0)),I x4] ?_
 obtain⟨y5,hy5,hy51,hy52⟩:=bL h
 have j5:∀u5,y5=.inr u5→Run G9 0 Q (.code (cR (cL (cL (cL (cL (cR (cR xV)))))))::.code (cR (cL (cL (cL (cR (cR xV))))))::.lp (cL (cL (cL (cR (cR xV)))))::.blk 0::K) (sT 45 [(1,.isl false (dT.map I)),(2,I k_3),(3,.hp 1 0 [] 5 0 0),(7,I x4),(30,B u5)] [⟨0,5,[ae s_1]⟩] 2):=by
  intro u5 hu
  replace h:=hy52 u5 hu
  refine sq h ?_ ?_<;>intro h
  ·refine aq 1 ?_
   refine cq 7 [7] [I (aj (x4 - 1))] 50 ?_
   refine dC ?_
   exact rf [1,2,3,7] [1] (ih _ _ h hr hn :)
  ·refine aq 1 ?_
   exact rf [1,2,7] [] (hn _ (ak h) :) (hk:=hK)
 have r5:∀r',y5=.inl r'→∀st,NN (s_1,dT,k_3) r' st→Q st:=fun r' e st hq=>hr r' (hy51 r' e) st hq
 replace h:=hy5
 refine sp 12 h rfl ?_ ?_<;>intro h
 ·refine dy [1] [] (.hp 1 0 [] 5 0 2) rfl (an rfl rfl rfl) ?_
  refine dy [1] [] (.isl false (s_1.Duties.map ah)) rfl (aU rfl rfl) ?_
  refine dk 3 [17,16,15] [I (aj (x4 - 1)),I x4,.isl false (dT.map I)] ?_
  obtain⟨e6,he6,h⟩:=bS h
  refine dy [] [] (.iptr (I e6) 0) rfl (al rfl rfl rfl (aW rfl rfl rfl rfl he6)) ?_
  refine dy [] [] (I e6) rfl (aU rfl rfl) ?_
  obtain⟨e7,he7,h⟩:=bS h
  refine dy [] [] (.iptr (ah e7) 0) rfl (al rfl rfl rfl (aW rfl rfl rfl rfl he7)) ?_
  refine dy [] [] (.iptr (ah e7) 2) rfl (an rfl rfl rfl) ?_
  refine dy [] [] (I e7.Due) rfl (aU rfl rfl) ?_
  refine dy [1] [] (.hp 1 0 [] 5 0 2) rfl (an rfl rfl rfl) ?_
  refine dy [1] [] (.isl false (s_1.Duties.map ah)) rfl (aU rfl rfl) ?_
  refine dk 1 [25] [I k_3] ?_
  obtain⟨e8,he8,h⟩:=bS h
  refine dy [] [] (.iptr (ah e8) 0) rfl (al rfl rfl rfl (aW rfl rfl rfl rfl he8)) ?_
  refine dy [] [] (.iptr (ah e8) 2) rfl (an rfl rfl rfl) ?_
  refine dy [] [] (I e8.Due) rfl (aU rfl rfl) ?_
  refine dk 2 [30,29] [B (decide (e7.Due>e8.Due)),B (decide (e7.Due>e8.Due))] ?_
  refine de 338 rfl rfl ?_
  exact rf [1,2,3,7,30] [1] (j5 _ (ak h) :)
 ·refine dk 18 [30,29,28,27,26,25,24,23,22,21,20,19,18,17,16,15,14,13] [B false,.und,.und,.und,.und,.und,.und,.und,.und,.und,.und,.und,.und,.und,.und,.und,.und,.und] ?_
  refine de 338 rfl rfl ?_
  exact rf [1,2,3,7,30] [1] (j5 _ (ak h) :)
theorem ZY (s_1:State)(dT:List Int)(k_3:Int)(r:(List Int))(h:v8 s_1 dT k_3=some r):bq G9 Tryz.f114 [false,false,false] 0 (G8 (s_1,dT,k_3)) (Ha r):=by
 show Run _ _ (NN (s_1,dT,k_3) r) [.code xV] _
 refine rI 45 [(0,ae s_1),(1,.isl false (dT.map I)),(2,I k_3)] [] 1 ?_
 unfold v8 at h
 refine ck 8 [3,8] [] [1] [] [.hp 1 0 [] 5 0 0,.isl false (dT.map I)] [some ⟨0,5,[ae s_1]⟩] 49 (by kernel_rfl) ?_
 refine oq 65 (I (len dT)) rfl (bA rfl rfl rfl (bR rfl)) ?_
 refine cq 4 [7] [I (len dT)] 81 ?_
 obtain⟨y9,hy9,hy91,hy92⟩:=bJ h
 refine bV rfl ?_
 refine rf [1,2,3,7] [1] (Qi s_1 dT k_3 rfl (len dT) _ hy9 (fun r' e st hq=>by rw[hy91 r' e] at hq;exact hq) fun u9 hu=>?_)
 replace h:=hy92 u9 hu
 refine aq 1 ?_
 refine dV [0,0,0,6,15,0,32,127,0,0,768,2047,4095] rfl (by decide +kernel) ?_
 refine dq [] [] (.hs 1 0 [] 1 0 0) rfl (eB rfl (ka (f:=I) (xs:=[]) (z:=I (0)) (es:=[]) (ws:=[]) rfl rfl rfl (by decide) rfl (dR rfl) rfl)) ?_
 refine dk 2 [35,34] [I u9,.isl false (dT.map I)] ?_
 obtain⟨s10,hs10,h⟩:=bS h
 refine dq [] [] (.isl false (s10.map I)) rfl (iK rfl rfl rfl rfl (zr rfl rfl (fun y=>(pW y).1) rfl rfl hs10)) ?_
 obtain⟨a11,ha11,h⟩:=bS h
 refine dq [1] [1] (.hs 65 0 [] 1 0 (a11.map I).length) rfl (iP rfl rfl rfl rfl rfl (lf (path:=[]) (es0:=[]) (f:=I) (xs:=([]:List Int)) (ys:=s10) rfl rfl sS rfl rfl rfl rfl rfl (by decide) pW ha11 rfl nM)) ?_
 refine dk 1 [38] [I k_3] ?_
 refine dq [] [] (.hs 97 0 [] 1 0 1) rfl (eB rfl (ka (f:=I) (xs:=[]) (z:=I (0)) (es:=[I k_3]) (ws:=[I k_3]) rfl rfl rfl (by decide) rfl (dR rfl) rfl)) ?_
 obtain⟨a12,ha12,h⟩:=bS h
 refine dq [65,97] [65] (.hs 113 0 [] 1 0 (a12.map I).length) rfl (iP rfl rfl rfl rfl rfl (lf (path:=[]) (f:=I) (xs:=a11) (ys:=[k_3]) rfl rfl (vL rfl rfl rfl) rfl rfl rfl aQ rfl (by decide) pW ha12 rfl nM)) ?_ (JK rfl (IY (path:=[]) (f:=I) (xs:=[k_3]) rfl rfl aQ agJ rfl))
 refine dk 2 [42,41] [I u9,.isl false (dT.map I)] ?_
 obtain⟨s13,hs13,h⟩:=bS h
 refine dq [] [] (.isl false (s13.map I)) rfl (iK rfl rfl rfl rfl (zr rfl rfl (fun y=>(pW y).1) rfl rfl hs13)) ?_
 obtain⟨a14,ha14,h⟩:=bS h
 refine dq [113] [113] (.hs 177 0 [] 1 0 (a14.map I).length) rfl (iP rfl rfl rfl rfl rfl (lf (path:=[]) (f:=I) (xs:=a12) (ys:=s13) rfl rfl sS rfl rfl rfl aQ rfl (by decide) pW ha14 rfl nM)) ?_
 refine dk 1 [6] [.hs 177 0 [] 1 0 (a14.map I).length] ?_
 refine de 209 rfl rfl ?_
 obtain rfl:=sI h
 exact ci rfl ⟨_,fin (vs:=[.hs 177 0 [] 1 0 (a14.map I).length]) rfl (fU (fC rfl (cZ rfl rfl)) eg) rfl (dh (dh (dh fa))),eW⟩
theorem Wl {G:bZ}:bW G 114 Du:=gT 3 0 bv ca Tryz.func114 (fun a r h=>ZY a.1 a.2.1 a.2.2 r h)
def G2:(Contract×State×Int×Int)→List V:=cA aV (cA bT (cA I (oA I)))
def G3 (r:(List Int)):V×List V:=(.usl 1 (r.map I),[])
noncomputable def Dr :=bf [false,false,false,false] G2 G3 fun x=>Dq x.1 x.2.1 x.2.2.1 x.2.2.2
theorem af7 {c_1:Contract}{s_2:State}{ef:Int}{fA:Int}{r}(h:Dq c_1 s_2 ef fA=some r):Dr.F (G2 (c_1,s_2,ef,fA))=some (G3 r):=aL (aH bc (aH cb (aH bd (aM bd)))) h
noncomputable def Wg :=aG Tryz.f67
noncomputable abbrev mC :=cL (cL (cR (cL (cR (cR Wg)))))
noncomputable abbrev rX :=cR (cR mC)
noncomputable abbrev uO :=cR (cR (cL (cL (cR mC))))
noncomputable def oX :=b9 [(114,Du)]
def NL (x:Contract×State×Int×Int)(r:(List Int)):St→Prop:=QF oX Tryz.f67 [false,false,false,false] (G2 x) (G3 r)
theorem Qh (c_1:Contract)(s_2:State)(ef:Int)(fA:Int):ct oX 0 (NL (c_1,s_2,ef,fA)) mC 0 (lw c_1 s_2 ef fA) (fun u=>(sT 62 [(9,.hs 1 0 [] 1 0 (u.map I).length)] [⟨0,1,u.map I⟩] 2)) fun x5=>(sT 62 [(2,I ef),(3,I fA),(4,.hp 1 0 [] 2 0 0),(5,.hp 2 0 [] 5 0 0),(9,.hs 3 0 [] 1 0 (x5.2.map I).length),(10,I x5.1)] [⟨0,2,[aa c_1]⟩,⟨0,5,[ae s_2]⟩,⟨0,1,x5.2.map I⟩] 4):=ez (A5 c_1 s_2 ef fA) fun {Q K} hK self ih x5 y h hr hn=>by
 unfold lY at h
 refine cq 6 [13,15] [I x5.1,.isl false (s_2.Duties.map ah)] 52 ?_
 refine oq 68 (I (len s_2.Duties)) rfl (bA rfl rfl rfl (bR rfl)) ?_
 refine cq 2 [17] [B (decide (x5.1<(len s_2.Duties)))] 84 ?_
 refine sq h ?_ ?_<;>intro h
 ·refine aq 1 ?_
  refine aq 3 ?_
  refine dV [0,1,0,4,0,28,60,124,255,511,0,2047] rfl (by decide +kernel) ?_
  refine dq [1] [] (.hp 1 0 [] 2 0 1) rfl (an rfl rfl rfl) ?_
  refine dq [1] [] (.isl false (c_1.Clauses.map ao)) rfl (aU rfl rfl) ?_
  refine dq [2] [] (.hp 2 0 [] 5 0 2) rfl (an rfl rfl rfl) ?_
  refine dq [2] [] (.isl false (s_2.Duties.map ah)) rfl (aU rfl rfl) ?_
  refine dk 1 [24] [I x5.1] ?_
  obtain⟨e6,he6,h⟩:=bS h
  refine dq [] [] (.iptr (ah e6) 0) rfl (al rfl rfl rfl (aW rfl rfl rfl rfl he6)) ?_
  refine dq [] [] (.iptr (ah e6) 0) rfl (an rfl rfl rfl) ?_
  refine dq [] [] (I e6.Clause) rfl (aU rfl rfl) ?_
  obtain⟨e7,he7,h⟩:=bS h
  refine dq [] [] (.iptr (ap e7) 0) rfl (al rfl rfl rfl (aW rfl rfl rfl rfl he7)) ?_
  refine dq [] [] (ap e7) rfl (aU rfl rfl) ?_
  refine dq [] [] (.hp 244 0 [] 12 0 0) rfl (aa1 (z:=.agg [str ([]),I (0),I (0),str ([]),I (0),I (0),I (0),str ([]),I (0),.isl true [],I (0),str ([])]) rfl rfl rfl) ?_
  refine dz [244] [244] rfl (fZ rfl rfl (eX (path:=[]) (pl:=true) (e':=ap e7) (es2':=[ap e7]) rfl (eb rfl) rfl rfl rfl aQ rfl rfl rfl rfl rfl ee 0 rfl)) ?_
  refine de 276 rfl rfl ?_
  refine cq 5 [31,32] [.isl false (s_2.Duties.map ah),I x5.1] 324 ?_
  obtain⟨e8,he8,h⟩:=bS h
  refine oq 340 (.iptr (ah e8) 0) rfl (al rfl rfl rfl (aW rfl rfl rfl rfl he8)) ?_
  refine cq 4 [37] [B (e8.Status==1)] 404 ?_
  obtain⟨u9,hu9,h⟩:=lJ h
  have j9:Run oX 0 Q (.code uO::.blk 1::.code rX::.lp mC::.blk 0::K) (sT 62 [(2,I ef),(3,I fA),(4,.hp 1 0 [] 2 0 0),(5,.hp 2 0 [] 5 0 0),(9,.hs 3 0 [] 1 0 (x5.2.map I).length),(10,I x5.1),(56,B u9)] [⟨0,2,[aa c_1]⟩,⟨0,5,[ae s_2]⟩,⟨0,1,x5.2.map I⟩] 4):=by
   obtain⟨y10,hy10,hy101,hy102⟩:=bL h
   have j10:∀u10,y10=.inr u10→Run oX 0 Q (.blk 1::.code rX::.lp mC::.blk 0::K) (sT 62 [(2,I ef),(3,I fA),(4,.hp 1 0 [] 2 0 0),(5,.hp 2 0 [] 5 0 0),(9,.hs 3 0 [] 1 0 (u10.map I).length),(10,I x5.1)] [⟨0,2,[aa c_1]⟩,⟨0,5,[ae s_2]⟩,⟨0,1,u10.map I⟩] 4):=by
    intro u10 hu
    replace h:=hy102 u10 hu
    refine cq 6 [10] [I (aj (x5.1+1))] 52 ?_
    refine dC ?_
    exact rf [2,3,4,5,9,10] [1,2,3] (ih _ _ h hr hn :)
   have r10:∀r',y10=.inl r'→∀st,NL (c_1,s_2,ef,fA) r' st→Q st:=fun r' e st hq=>hr r' (hy101 r' e) st hq
   replace h:=hy10
   refine sq h ?_ ?_<;>intro h
   ·refine cq 4 [57,58,59] [ae s_2,.hs 3 0 [] 1 0 (x5.2.map I).length,I x5.1] 52 ?_
    obtain⟨r11,hr11,h⟩:=bS h
    refine oq 68 (.hs 52 0 [] 1 0 (r11.map I).length) rfl (bM rfl rfl (b7 rfl rfl rfl (aR (bo rfl) (aR (BI rfl rfl (fT (f:=I) (g:=I) (xs:=x5.2) rfl rfl (bX nm))) (aR (bo rfl) cS))) (af9 hr11) (.inl (by simp[dF,d9,str,wE (f:=I) Oq])) dH rfl rfl rfl)) ?_
    refine cq 2 [9] [.hs 52 0 [] 1 0 (r11.map I).length] 84 ?_
    exact rf [2,3,4,5,9,10] [1,2,52] (j10 _ (ak h) :)
   ·refine aq 1 ?_
    exact rf [2,3,4,5,9,10] [1,2,3] (j10 _ (ak h) :)
  replace h:=hu9
  clear hu9
  refine sp 37 h rfl ?_ ?_<;>intro h
  ·refine cq 3 [40] [B (decide (ef<0))] 452 ?_
   obtain⟨u12,hu12,h⟩:=lJ h
   have j12:Run oX 0 Q (.code uO::.blk 1::.code rX::.lp mC::.blk 0::K) (sT 62 [(2,I ef),(3,I fA),(4,.hp 1 0 [] 2 0 0),(5,.hp 2 0 [] 5 0 0),(9,.hs 3 0 [] 1 0 (x5.2.map I).length),(10,I x5.1),(56,B u12)] [⟨0,2,[aa c_1]⟩,⟨0,5,[ae s_2]⟩,⟨0,1,x5.2.map I⟩] 4):=by
    subst h
    exact rf [2,3,4,5,9,10,56] [1,2,3] (j9 :)
   replace h:=hu12
   clear hu12
   refine sp 40 h rfl ?_ ?_<;>intro h
   ·refine cq 10 [47,50] [B true,B (decide (fA<0))] 612 ?_
    obtain⟨u13,hu13,h⟩:=lJ h
    have j13:Run oX 0 Q (.code uO::.blk 1::.code rX::.lp mC::.blk 0::K) (sT 62 [(2,I ef),(3,I fA),(4,.hp 1 0 [] 2 0 0),(5,.hp 2 0 [] 5 0 0),(9,.hs 3 0 [] 1 0 (x5.2.map I).length),(10,I x5.1),(56,B u13)] [⟨0,2,[aa c_1]⟩,⟨0,5,[ae s_2]⟩,⟨0,1,x5.2.map I⟩] 4):=by
     subst h
     exact rf [2,3,4,5,9,10,56] [1,2,3] (j12 :)
    replace h:=hu13
    clear hu13
    refine sp 50 h rfl ?_ ?_<;>intro h
    ·refine cq 7 [56] [B true] 708 ?_
     subst h
     exact rf [2,3,4,5,9,10,56] [1,2,3] (j13 :)
    ·refine cq 7 [56] [B (e7.Other==fA)] 708 ?_
     subst h
     exact rf [2,3,4,5,9,10,56] [1,2,3] (j13 :)
   ·refine cq 7 [47] [B (e7.Party==ef)] 564 ?_
    obtain⟨u14,hu14,h⟩:=lJ h
    have j14:Run oX 0 Q (.code uO::.blk 1::.code rX::.lp mC::.blk 0::K) (sT 62 [(2,I ef),(3,I fA),(4,.hp 1 0 [] 2 0 0),(5,.hp 2 0 [] 5 0 0),(9,.hs 3 0 [] 1 0 (x5.2.map I).length),(10,I x5.1),(56,B u14)] [⟨0,2,[aa c_1]⟩,⟨0,5,[ae s_2]⟩,⟨0,1,x5.2.map I⟩] 4):=by
     subst h
     exact rf [2,3,4,5,9,10,56] [1,2,3] (j12 :)
    replace h:=hu14
    clear hu14
    refine sp 47 h rfl ?_ ?_<;>intro h
    ·refine cq 3 [50] [B (decide (fA<0))] 612 ?_
     obtain⟨u15,hu15,h⟩:=lJ h
     have j15:Run oX 0 Q (.code uO::.blk 1::.code rX::.lp mC::.blk 0::K) (sT 62 [(2,I ef),(3,I fA),(4,.hp 1 0 [] 2 0 0),(5,.hp 2 0 [] 5 0 0),(9,.hs 3 0 [] 1 0 (x5.2.map I).length),(10,I x5.1),(56,B u15)] [⟨0,2,[aa c_1]⟩,⟨0,5,[ae s_2]⟩,⟨0,1,x5.2.map I⟩] 4):=by
      subst h
      exact rf [2,3,4,5,9,10,56] [1,2,3] (j14 :)
     replace h:=hu15
     clear hu15
     refine sp 50 h rfl ?_ ?_<;>intro h
     ·refine cq 7 [56] [B true] 708 ?_
      subst h
      exact rf [2,3,4,5,9,10,56] [1,2,3] (j15 :)
     ·refine cq 7 [56] [B (e7.Other==fA)] 708 ?_
      subst h
      exact rf [2,3,4,5,9,10,56] [1,2,3] (j15 :)
    ·refine cq 10 [56] [B false] 708 ?_
     subst h
     exact rf [2,3,4,5,9,10,56] [1,2,3] (j14 :)
  ·refine cq 20 [56] [B false] 708 ?_
   subst h
   exact rf [2,3,4,5,9,10,56] [1,2,3] (j9 :)
 ·refine aq 1 ?_
  exact rf [9] [3] (hn _ (ak h) :) (hk:=hK)
theorem ZW (c_1:Contract)(s_2:State)(ef:Int)(fA:Int)(r:(List Int))(h:Dq c_1 s_2 ef fA=some r):bq oX Tryz.f67 [false,false,false,false] 0 (G2 (c_1,s_2,ef,fA)) (G3 r):=by
 show Run _ _ (NL (c_1,s_2,ef,fA) r) [.code Wg] _
 refine rI 62 [(0,aa c_1),(1,ae s_2),(2,I ef),(3,I fA)] [] 1 ?_
 unfold Dq at h
 refine ck 8 [4,5] [] [1,17] [] [.hp 1 0 [] 2 0 0,.hp 17 0 [] 5 0 0] [some ⟨0,2,[aa c_1]⟩,some ⟨0,5,[ae s_2]⟩] 49 (by kernel_rfl) ?_
 refine oq 65 (.hs 49 0 [] 1 0 0) rfl (eB rfl (ka (f:=I) (xs:=[]) (z:=I (0)) (es:=[]) (ws:=[]) rfl rfl rfl (by decide) rfl (dR rfl) rfl)) ?_
 refine cq 8 [9,10] [.hs 49 0 [] 1 0 0,I (0)] 97 ?_
 obtain⟨y16,hy16,hy161,hy162⟩:=bJ h
 refine bV rfl ?_
 refine rf [2,3,4,5,9,10] [1,17,49] (Qh c_1 s_2 ef fA rfl (0,[]) _ hy16 (fun r' e st hq=>by rw[hy161 r' e] at hq;exact hq) fun u16 hu=>?_)
 replace h:=hy162 u16 hu
 refine cq 5 [8] [.hs 1 0 [] 1 0 (u16.map I).length] 34 ?_
 obtain rfl:=sI h
 exact ci rfl ⟨_,fin (vs:=[.hs 1 0 [] 1 0 (u16.map I).length]) rfl (fU (fC rfl (cZ rfl rfl)) eg) rfl (dh (dh (dh (dh fa)))),eW⟩
theorem Wh {G:bZ}:bW G 67 Dr:=gT 4 0 (aO Wl bv) ca Tryz.func67 (fun a r h=>ZW a.1 a.2.1 a.2.2.1 a.2.2.2 r h)
def yd:(Condition×(List ac)×Int)→List V:=cA bD (cA (fP str) (oA I))
def ye (r:Bool):V×List V:=(B r,[])
noncomputable def yf (cV:(Condition×(List ac)×Int)→Option Bool):Ent:=bf [false,false,false] yd ye cV
theorem sa (cV:(Condition×(List ac)×Int)→Option Bool){x}{r}(h:cV x=some r):(yf cV).F (yd x)=some (ye r):=aL (aH dt (aH (bC bx) (aM bd))) h
noncomputable def DF :=yf (aN l6)
theorem WC {c_1:Condition}{bN:List ac}{cy:Int}{r}(h:Kc c_1 bN cy=some r):DF.F (yd (c_1,bN,cy))=some (ye r):=sa (aN l6) h
noncomputable def Hx :=aG Tryz.f149
noncomputable def Hw (cV:(Condition×(List ac)×Int)→Option Bool):Env:=b9 [(123,sk),(149,(yf cV))]
def sn (cV:(Condition×(List ac)×Int)→Option Bool)(x:Condition×(List ac)×Int)(r:Bool):St→Prop:=QF (Hw cV) Tryz.f149 [false,false,false] (yd x) (ye r)
theorem aaa (cV:(Condition×(List ac)×Int)→Option Bool)(c_1:Condition)(bN:List ac)(cy:Int)(r:Bool)(h:uS cV c_1 bN cy=some r):bq (Hw cV) Tryz.f149 [false,false,false] 0 (yd (c_1,bN,cy)) (ye r):=by
 show Run _ _ (sn cV (c_1,bN,cy) r) [.code Hx] _
 refine rI 67 [(0,ai c_1),(1,.isl false (bN.map str)),(2,I cy)] [] 1 ?_
 unfold uS at h
 refine ck 17 [3,8,9] [] [1] [] [.hp 1 0 [] 4 0 0,I c_1.Op,B (c_1.Op==1)] [some ⟨0,4,[ai c_1]⟩] 97 (by kernel_rfl) ?_
 refine sq h ?_ ?_<;>intro h
 ·refine cq 4 [6] [B true] 113 ?_
  obtain rfl:=sI h
  exact rP [B true]
 ·refine cq 5 [11] [B (c_1.Op==2)] 129 ?_
  refine sq h ?_ ?_<;>intro h
  ·refine cq 5 [13,15] [.isl false (bN.map str),str c_1.Name] 177 ?_
   obtain⟨r4,hr4,h⟩:=bS h
   refine oq 193 (B r4) rfl (cP (Ht hr4)) ?_
   refine cq 2 [6] [B r4] 209 ?_
   obtain rfl:=sI h
   exact rP [B r4]
  ·refine cq 5 [17] [B (c_1.Op==3)] 161 ?_
   refine sq h ?_ ?_<;>intro h
   ·refine cq 8 [6] [B (decide (cy≥c_1.Day))] 241 ?_
    obtain rfl:=sI h
    exact rP [B (decide (cy≥c_1.Day))]
   ·refine cq 5 [23] [B (c_1.Op==4)] 193 ?_
    refine sq h ?_ ?_<;>intro h
    ·refine cq 4 [26] [.isl false (c_1.Parts.map aB)] 225 ?_
     obtain⟨e5,he5,h⟩:=bS h
     refine oq 241 (.iptr (ai e5) 0) rfl (al rfl rfl rfl (aW rfl rfl (bU e5) rfl he5)) ?_
     refine cq 3 [28,29,30] [ai e5,.isl false (bN.map str),I cy] 289 ?_
     obtain⟨r6,hr6,h⟩:=bS h
     refine oq 305 (B r6) rfl (bM rfl rfl (b7 rfl rfl rfl (aR (bo rfl) (aR (bo rfl) (aR (bo rfl) cS))) (sa cV hr6) (.inr rfl) dH rfl rfl rfl)) ?_
     refine cq 3 [6] [B (!r6)] 337 ?_
     obtain rfl:=sI h
     exact rP [B (!r6)]
    ·refine cq 5 [33] [B (c_1.Op==5)] 225 ?_
     refine sq h ?_ ?_<;>intro h
     ·refine cq 4 [36] [.isl false (c_1.Parts.map aB)] 257 ?_
      obtain⟨e7,he7,h⟩:=bS h
      refine oq 273 (.iptr (ai e7) 0) rfl (al rfl rfl rfl (aW rfl rfl (bU e7) rfl he7)) ?_
      refine cq 3 [38,39,40] [ai e7,.isl false (bN.map str),I cy] 321 ?_
      obtain⟨r8,hr8,h⟩:=bS h
      refine oq 337 (B r8) rfl (bM rfl rfl (b7 rfl rfl rfl (aR (bo rfl) (aR (bo rfl) (aR (bo rfl) cS))) (sa cV hr8) (.inr rfl) dH rfl rfl rfl)) ?_
      refine cq 1 [42] [B r8] 353 ?_
      obtain⟨y9,hy9,hy91,hy92⟩:=bJ h
      have j9:∀u9,y9=.inr u9→Run (Hw cV) 0 (sn cV (c_1,bN,cy) r) (.code (cR (cL (cR (cR (cR (cR (cR (cR (cR (cR (cR (cL (cR (cL (cR Hx)))))))))))))))::.blk 0::.code (cR (cR Hx))::[]) (sT 67 [(6,B u9)] [] 1):=by
       intro u9 hu
       replace h:=hy92 u9 hu
       obtain rfl:=sI h
       exact rP [B u9]
      have r9:∀r',y9=.inl r'→∀st,sn cV (c_1,bN,cy) r' st→(sn cV (c_1,bN,cy) r) st:=fun r' e st hq=>by rw[hy91 r' e] at hq;exact hq
      replace h:=hy9
      refine sp 42 h rfl ?_ ?_<;>intro h
      ·refine cq 2 [44] [.isl false (c_1.Parts.map aB)] 385 ?_
       obtain⟨e10,he10,h⟩:=bS h
       refine oy 401 (.iptr (ai e10) 0) rfl (al rfl rfl rfl (aW rfl rfl (bU e10) rfl he10)) ?_
       refine cq 3 [46,47,48] [ai e10,.isl false (bN.map str),I cy] 449 ?_
       obtain⟨r11,hr11,h⟩:=bS h
       refine oy 465 (B r11) rfl (bM rfl rfl (b7 rfl rfl rfl (aR (bo rfl) (aR (bo rfl) (aR (bo rfl) cS))) (sa cV hr11) (.inr rfl) dH rfl rfl rfl)) ?_
       refine cq 3 [6] [B r11] 497 ?_
       exact rf [6] [] (j9 _ (ak h) :)
      ·refine cq 10 [6] [B false] 497 ?_
       exact rf [6] [] (j9 _ (ak h) :)
     ·refine aq 1 ?_
      refine cq 5 [52] [.isl false (c_1.Parts.map aB)] 257 ?_
      obtain⟨e12,he12,h⟩:=bS h
      refine oq 273 (.iptr (ai e12) 0) rfl (al rfl rfl rfl (aW rfl rfl (bU e12) rfl he12)) ?_
      refine cq 3 [54,55,56] [ai e12,.isl false (bN.map str),I cy] 321 ?_
      obtain⟨r13,hr13,h⟩:=bS h
      refine oq 337 (B r13) rfl (bM rfl rfl (b7 rfl rfl rfl (aR (bo rfl) (aR (bo rfl) (aR (bo rfl) cS))) (sa cV hr13) (.inr rfl) dH rfl rfl rfl)) ?_
      refine cq 1 [58] [B r13] 353 ?_
      obtain⟨y14,hy14,hy141,hy142⟩:=bJ h
      have j14:∀u14,y14=.inr u14→Run (Hw cV) 0 (sn cV (c_1,bN,cy) r) (.code (cR (cR (cR Hx)))::[]) (sT 67 [(6,B u14)] [] 1):=by
       intro u14 hu
       replace h:=hy142 u14 hu
       obtain rfl:=sI h
       exact rP [B u14]
      have r14:∀r',y14=.inl r'→∀st,sn cV (c_1,bN,cy) r' st→(sn cV (c_1,bN,cy) r) st:=fun r' e st hq=>by rw[hy141 r' e] at hq;exact hq
      replace h:=hy14
      refine sp 58 h rfl ?_ ?_<;>intro h
      ·refine cq 10 [6] [B true] 497 ?_
       exact rf [6] [] (j14 _ (ak h) :)
      ·refine cq 2 [60] [.isl false (c_1.Parts.map aB)] 385 ?_
       obtain⟨e15,he15,h⟩:=bS h
       refine oy 401 (.iptr (ai e15) 0) rfl (al rfl rfl rfl (aW rfl rfl (bU e15) rfl he15)) ?_
       refine cq 3 [62,63,64] [ai e15,.isl false (bN.map str),I cy] 449 ?_
       obtain⟨r16,hr16,h⟩:=bS h
       refine oy 465 (B r16) rfl (bM rfl rfl (b7 rfl rfl rfl (aR (bo rfl) (aR (bo rfl) (aR (bo rfl) cS))) (sa cV hr16) (.inr rfl) dH rfl rfl rfl)) ?_
       refine cq 3 [6] [B r16] 497 ?_
       exact rf [6] [] (j14 _ (ak h) :)
theorem WD {G:bZ}:bW G 149 DF:=jg fun cV g_Ffef=>gT 3 0 (aO yb (aO g_Ffef bv)) ca Tryz.func149 (fun a r h=>aaa cV a.1 a.2.1 a.2.2 r h)
def Ic:(l9Run×Int)→List V:=cA (LB dA) (oA I)
def Ie (r:Bool):V×List V:=(B r,[])
noncomputable def DY :=bf [false,false] Ic Ie fun x=>DX x.1 x.2
theorem agw {r_1:l9Run}{i_2:Int}{r}(h:DX r_1 i_2=some r):DY.F (Ic (r_1,i_2))=some (Ie r):=aL (aH (eZ qc) (aM bd)) h
noncomputable def agy :=aG Tryz.f107
noncomputable def W7 :=b9 [(149,DF)]
def agx (x:l9Run×Int)(r:Bool):St→Prop:=QF W7 Tryz.f107 [false,false] (Ic x) (Ie r)
theorem aat (r_1:l9Run)(i_2:Int)(r:Bool)(h:DX r_1 i_2=some r):bq W7 Tryz.f107 [false,false] 0 (Ic (r_1,i_2)) (Ie r):=by
 show Run _ _ (agx (r_1,i_2) r) [.code agy] _
 refine rI 25 [(0,.iptr (dA r_1) 0),(1,I i_2)] [] 1 ?_
 unfold DX at h
 refine cq 5 [] [] 17 ?_
 refine dV [0,1,3,7,15,0,63,127,255,0,512,1536,3584,7680,0,16384,49152,114688,245760,524287,1048575] rfl (by decide +kernel) ?_
 refine dk 1 [5] [.iptr (dA r_1) 0] ?_
 refine dq [] [] (.iptr (dA r_1) 0) rfl (pg rfl rfl) ?_
 refine dq [] [] (.iptr (dA r_1) 0) rfl (an rfl rfl rfl) ?_
 refine dq [] [] (.iptr (dA r_1) 1) rfl (an rfl rfl rfl) ?_
 refine dq [] [] (.isl false (r_1.f_c.Clauses.map ao)) rfl (aU rfl rfl) ?_
 refine dk 1 [10] [I i_2] ?_
 obtain⟨e3,he3,h⟩:=bS h
 refine dq [] [] (.iptr (ap e3) 0) rfl (al rfl rfl rfl (aW rfl rfl rfl rfl he3)) ?_
 refine dq [] [] (.iptr (ap e3) 6) rfl (an rfl rfl rfl) ?_
 refine dq [] [] (ai e3.When) rfl (aU rfl rfl) ?_
 refine dk 1 [14] [.iptr (dA r_1) 0] ?_
 refine dq [] [] (.iptr (dA r_1) 0) rfl (pg rfl rfl) ?_
 refine dq [] [] (.iptr (dA r_1) 2) rfl (an rfl rfl rfl) ?_
 refine dq [] [] (.iptr (dA r_1) 3) rfl (an rfl rfl rfl) ?_
 refine dq [] [] (.isl false (r_1.f_s.Facts.map str)) rfl (aU rfl rfl) ?_
 refine dk 1 [19] [.iptr (dA r_1) 0] ?_
 refine dq [] [] (.iptr (dA r_1) 0) rfl (pg rfl rfl) ?_
 refine dq [] [] (.iptr (dA r_1) 2) rfl (an rfl rfl rfl) ?_
 refine dq [] [] (.iptr (dA r_1) 2) rfl (an rfl rfl rfl) ?_
 refine dq [] [] (I r_1.f_s.Day) rfl (aU rfl rfl) ?_
 obtain⟨r4,hr4,h⟩:=bS h
 refine dq [] [] (B r4) rfl (cP (WC hr4)) ?_ (dK rfl rfl rfl rfl (aR (bo rfl) (aR (bo rfl) (aR (bo rfl) cS))) (WC hr4) (.inr rfl) rfl)
 refine dk 1 [4] [B r4] ?_
 refine de 353 rfl rfl ?_
 obtain rfl:=sI h
 exact rP [B r4]
theorem W8 {G:bZ}:bW G 107 DY:=gT 2 0 (aO WD bv) ca Tryz.func107 (fun a r h=>aat a.1 a.2 r h)
def H7:(l9Run×Int×Int×ac)→List V:=cA (LB dA) (cA I (cA I (oA str)))
def H9 (r:Int):V×List V:=(I r,[])
noncomputable def wh :=bf [false,false,false,false] H7 H9 fun x=>tM x.1 x.2.1 x.2.2.1 x.2.2.2
theorem H8 {r_1:l9Run}{dG:Int}{aD:Int}{aE:ac}{r}(h:tM r_1 dG aD aE=some r):wh.F (H7 (r_1,dG,aD,aE))=some (H9 r):=aL (aH (eZ qc) (aH bd (aH bd (aM bx)))) h
noncomputable def W4 :=aG Tryz.f56
noncomputable abbrev sd :=cL (cL (cR (cL (cR W4))))
noncomputable abbrev Kf :=cR (cR sd)
noncomputable abbrev Kg :=cR (cR (cL (cL (cR sd))))
noncomputable def vh :=b9 [(107,DY)]
def yz (x:l9Run×Int×Int×ac)(r:Int):St→Prop:=QF vh Tryz.f56 [false,false,false,false] (H7 x) (H9 r)
theorem QA (r_1:l9Run)(dG:Int)(aD:Int)(aE:ac):ct vh 0 (yz (r_1,dG,aD,aE)) sd 0 (vi r_1 dG aD aE) (fun u=>(sT 51 [] [] 1)) fun x5=>(sT 51 [(0,.iptr (dA r_1) 0),(1,I dG),(2,I aD),(3,str aE),(9,I x5)] [] 1):=ez (Bo r_1 dG aD aE) fun {Q K} hK self ih x5 y h hr hn=>by
 unfold oG at h
 refine cq 9 [11,16] [I x5,.isl false (r_1.f_c.Clauses.map ao)] 97 ?_
 refine oq 113 (I (len r_1.f_c.Clauses)) rfl (bA rfl rfl rfl (bR rfl)) ?_
 refine cq 2 [18] [B (decide (x5<(len r_1.f_c.Clauses)))] 129 ?_
 refine sq h ?_ ?_<;>intro h
 ·refine aq 1 ?_
  refine cq 10 [25,26] [.isl false (r_1.f_c.Clauses.map ao),I x5] 225 ?_
  obtain⟨e6,he6,h⟩:=bS h
  refine oq 241 (.iptr (ap e6) 0) rfl (al rfl rfl rfl (aW rfl rfl rfl rfl he6)) ?_
  refine ck 2 [10,28] [] [257] [] [.hp 257 0 [] 12 0 0,ap e6] [some ⟨0,12,[.agg [str ([]),I (0),I (0),str ([]),I (0),I (0),I (0),str ([]),I (0),.isl true [],I (0),str ([])]]⟩] 273 (by kernel_rfl) ?_
  refine fK 257 [.agg [str ([]),I (0),I (0),str ([]),I (0),I (0),I (0),str ([]),I (0),.usl 4 (([]).map aF),I (0),str ([])]] rfl rfl (aJ (gC (aJ (.refl _) (aJ (.refl _) (aJ (.refl _) (aJ (.refl _) (aJ (.refl _) (aJ (.refl _) (aJ (.refl _) (aJ (.refl _) (aJ (.refl _) (aJ (.nil _) (aJ (.refl _) (aJ (.refl _) eF))))))))))))) eF) ?_
  refine ck 9 [33] [] [257] [] [B (e6.Kind==dG)] [some ⟨2,12,[ap e6]⟩] 369 (by kernel_rfl) ?_
  obtain⟨y7,hy7,hy71,hy72⟩:=bL h
  have j7:∀u7,y7=.inr u7→Run vh 0 Q (.code Kg::.blk 1::.code Kf::.lp sd::.blk 0::K) (sT 51 [(0,.iptr (dA r_1) 0),(1,I dG),(2,I aD),(3,str aE),(9,I x5),(49,B u7)] [] 1):=by
   intro u7 hu
   replace h:=hy72 u7 hu
   refine sq h ?_ ?_<;>intro h
   ·refine cq 5 [8] [I x5] 33 ?_
    exact ci rfl (hr _ (ak h) _ (qp [I x5]))
   ·refine aq 1 ?_
    refine cq 6 [9] [I (aj (x5+1))] 49 ?_
    refine dC ?_
    exact rf [0,1,2,3,9] [] (ih _ _ h hr hn :)
  have r7:∀r',y7=.inl r'→∀st,yz (r_1,dG,aD,aE) r' st→Q st:=fun r' e st hq=>hr r' (hy71 r' e) st hq
  replace h:=hy7
  refine sp 33 h rfl ?_ ?_<;>intro h
  ·refine cq 6 [39] [B (e6.Party==aD)] 465 ?_
   obtain⟨y8,hy8,hy81,hy82⟩:=bL h
   have j8:∀u8,y8=.inr u8→Run vh 0 Q (.code Kg::.blk 1::.code Kf::.lp sd::.blk 0::K) (sT 51 [(0,.iptr (dA r_1) 0),(1,I dG),(2,I aD),(3,str aE),(9,I x5),(49,B u8)] [] 1):=by
    intro u8 hu
    replace h:=hy82 u8 hu
    exact rf [0,1,2,3,9,49] [] (j7 _ (ak h) :)
   have r8:∀r',y8=.inl r'→∀st,yz (r_1,dG,aD,aE) r' st→Q st:=fun r' e st hq=>r7 r' (hy81 r' e) st hq
   replace h:=hy8
   refine sp 39 h rfl ?_ ?_<;>intro h
   ·refine cq 6 [45] [B (e6.Action==aE)] 561 ?_
    obtain⟨y9,hy9,hy91,hy92⟩:=bL h
    have j9:∀u9,y9=.inr u9→Run vh 0 Q (.code Kg::.blk 1::.code Kf::.lp sd::.blk 0::K) (sT 51 [(0,.iptr (dA r_1) 0),(1,I dG),(2,I aD),(3,str aE),(9,I x5),(49,B u9)] [] 1):=by
     intro u9 hu
     replace h:=hy92 u9 hu
     exact rf [0,1,2,3,9,49] [] (j8 _ (ak h) :)
    have r9:∀r',y9=.inl r'→∀st,yz (r_1,dG,aD,aE) r' st→Q st:=fun r' e st hq=>r8 r' (hy91 r' e) st hq
    replace h:=hy9
    refine sp 45 h rfl ?_ ?_<;>intro h
    ·refine cq 2 [46,47] [.iptr (dA r_1) 0,I x5] 593 ?_
     obtain⟨r10,hr10,h⟩:=bS h
     refine oy 609 (B r10) rfl (cP (agw hr10)) ?_
     refine cq 2 [49] [B r10] 625 ?_
     exact rf [0,1,2,3,9,49] [] (j9 _ (ak h) :)
    ·refine cq 5 [49] [B false] 625 ?_
     exact rf [0,1,2,3,9,49] [] (j9 _ (ak h) :)
   ·refine cq 11 [49] [B false] 625 ?_
    exact rf [0,1,2,3,9,49] [] (j8 _ (ak h) :)
  ·refine cq 17 [49] [B false] 625 ?_
   exact rf [0,1,2,3,9,49] [] (j7 _ (ak h) :)
 ·refine aq 1 ?_
  exact rf [] [] (hn _ (ak h) :) (hk:=hK)
theorem aar (r_1:l9Run)(dG:Int)(aD:Int)(aE:ac)(r:Int)(h:tM r_1 dG aD aE=some r):bq vh Tryz.f56 [false,false,false,false] 0 (H7 (r_1,dG,aD,aE)) (H9 r):=by
 show Run _ _ (yz (r_1,dG,aD,aE) r) [.code W4] _
 refine rI 51 [(0,.iptr (dA r_1) 0),(1,I dG),(2,I aD),(3,str aE)] [] 1 ?_
 unfold tM at h
 refine cq 10 [9] [I (0)] 33 ?_
 obtain⟨y11,hy11,hy111,hy112⟩:=bJ h
 refine bV rfl ?_
 refine rf [0,1,2,3,9] [] (QA r_1 dG aD aE rfl 0 _ hy11 (fun r' e st hq=>by rw[hy111 r' e] at hq;exact hq) fun u11 hu=>?_)
 replace h:=hy112 u11 hu
 refine cq 4 [8] [I (-1)] 17 ?_
 obtain rfl:=sI h
 exact rP [I (-1)]
theorem K7 {G:bZ}:bW G 56 wh:=gT 4 0 (aO W8 bv) ca Tryz.func56 (fun a r h=>aar a.1 a.2.1 a.2.2.1 a.2.2.2 r h)
def Ia:(l9Run×Int×ac)→List V:=cA (LB dA) (cA I (oA str))
def Ib (r:Int):V×List V:=(I r,[])
noncomputable def DW :=bf [false,false,false] Ia Ib fun x=>Kh x.1 x.2.1 x.2.2
theorem agt {r_1:l9Run}{eU:Int}{ew:ac}{r}(h:Kh r_1 eU ew=some r):DW.F (Ia (r_1,eU,ew))=some (Ib r):=aL (aH (eZ qc) (aH bd (aM bx))) h
noncomputable def agv :=aG Tryz.f63
noncomputable def W5 :=b9 [(56,wh)]
def agu (x:l9Run×Int×ac)(r:Int):St→Prop:=QF W5 Tryz.f63 [false,false,false] (Ia x) (Ib r)
theorem aas (r_1:l9Run)(eU:Int)(ew:ac)(r:Int)(h:Kh r_1 eU ew=some r):bq W5 Tryz.f63 [false,false,false] 0 (Ia (r_1,eU,ew)) (Ib r):=by
 show Run _ _ (agu (r_1,eU,ew) r) [.code agv] _
 refine rI 16 [(0,.iptr (dA r_1) 0),(1,I eU),(2,str ew)] [] 1 ?_
 unfold Kh at h
 refine cq 10 [7,8,9] [.iptr (dA r_1) 0,I eU,str ew] 65 ?_
 obtain⟨r4,hr4,h⟩:=bS h
 refine oq 81 (I r4) rfl (cP (H8 hr4)) ?_
 refine cq 2 [11] [B (decide (r4≥0))] 97 ?_
 refine sq h ?_ ?_<;>intro h
 ·refine cq 4 [6] [I (-1)] 113 ?_
  obtain rfl:=sI h
  exact rP [I (-1)]
 ·refine aq 1 ?_
  refine cq 5 [12,13,14] [.iptr (dA r_1) 0,I eU,str ew] 145 ?_
  obtain⟨r5,hr5,h⟩:=bS h
  refine oq 161 (I r5) rfl (cP (H8 hr5)) ?_
  refine cq 2 [6] [I r5] 177 ?_
  obtain rfl:=sI h
  exact rP [I r5]
theorem W6 {G:bZ}:bW G 63 DW:=gT 3 0 (aO K7 bv) ca Tryz.func63 (fun a r h=>aas a.1 a.2.1 a.2.2 r h)
def GW:(Contract×State×Int×ac)→List V:=cA aV (cA bT (cA I (oA str)))
def GY (r:Int×Bool):V×List V:=(.tup [I r.1,B r.2],[])
noncomputable def Dp :=bf [false,false,false,false] GW GY fun x=>Dn x.1 x.2.1 x.2.2.1 x.2.2.2
theorem We {c_1:Contract}{s_2:State}{aD:Int}{aE:ac}{r}(h:Dn c_1 s_2 aD aE=some r):Dp.F (GW (c_1,s_2,aD,aE))=some (GY r):=aL (aH bc (aH cb (aH bd (aM bx)))) h
noncomputable def GZ :=aG Tryz.f37
noncomputable def GX :=b9 [(65,Dt),(67,Dr),(63,DW),(56,wh),(80,nA)]
def xU (x:Contract×State×Int×ac)(r:Int×Bool):St→Prop:=QF GX Tryz.f37 [false,false,false,false] (GW x) (GY r)
theorem Qg (c_1:Contract)(s_2:State)(aD:Int)(aE:ac)(r7:(List Int)):ct GX 0 (xU (c_1,s_2,aD,aE)) (cL (cL (cR (cL (cR (cR (cR (cR GZ)))))))) 0 (mB c_1 s_2 aD aE r7) (fun u=>(sT 73 [(2,I aD),(3,str aE),(4,.hp 1 0 [] 2 0 0),(5,.hp 2 0 [] 5 0 0)] [⟨0,2,[aa c_1]⟩,⟨0,5,[ae s_2]⟩] 3)) fun x8=>(sT 73 [(2,I aD),(3,str aE),(4,.hp 1 0 [] 2 0 0),(5,.hp 2 0 [] 5 0 0),(10,.hs 3 0 [] 1 0 (r7.map I).length),(11,I x8)] [⟨0,2,[aa c_1]⟩,⟨0,5,[ae s_2]⟩,⟨0,1,r7.map I⟩] 4):=ez (AZ c_1 s_2 aD aE r7) fun {Q K} hK self ih x8 y h hr hn=>by
 unfold lX at h
 refine cq 5 [29,30] [I x8,.hs 3 0 [] 1 0 (r7.map I).length] 36 ?_
 refine oq 52 (I (len r7)) rfl (bA rfl rfl rfl (rD (f:=I) (xs:=r7) rfl rfl)) ?_
 refine cq 2 [32] [B (decide (x8<(len r7)))] 68 ?_
 refine sq h ?_ ?_<;>intro h
 ·refine aq 1 ?_
  refine aq 3 ?_
  refine dV [0,1,0,4,0,0,48,112,252,508,1020,2047,4095,8191,0,32767] rfl (by decide +kernel) ?_
  refine dq [1] [] (.hp 1 0 [] 2 0 1) rfl (an rfl rfl rfl) ?_
  refine dq [1] [] (.isl false (c_1.Clauses.map ao)) rfl (aU rfl rfl) ?_
  refine dq [2] [] (.hp 2 0 [] 5 0 2) rfl (an rfl rfl rfl) ?_
  refine dq [2] [] (.isl false (s_2.Duties.map ah)) rfl (aU rfl rfl) ?_
  refine dk 2 [40,39] [I x8,.hs 3 0 [] 1 0 (r7.map I).length] ?_
  obtain⟨e9,he9,h⟩:=bS h
  refine dq [3] [] (.hp 3 0 [] 1 (0+Int.toNat x8) 0) rfl (al rfl rfl rfl (d7 (f:=I) (xs:=r7) rfl rfl rfl he9)) ?_
  refine dq [3] [] (I e9) rfl (aU rfl (gq (path:=[]) rfl rfl rfl aQ (dD (f:=I) (xs:=r7) he9) rfl rfl rfl)) ?_
  obtain⟨e10,he10,h⟩:=bS h
  refine dq [] [] (.iptr (ah e10) 0) rfl (al rfl rfl rfl (aW rfl rfl rfl rfl he10)) ?_
  refine dq [] [] (.iptr (ah e10) 0) rfl (an rfl rfl rfl) ?_
  refine dq [] [] (I e10.Clause) rfl (aU rfl rfl) ?_
  obtain⟨e11,he11,h⟩:=bS h
  refine dq [] [] (.iptr (ap e11) 0) rfl (al rfl rfl rfl (aW rfl rfl rfl rfl he11)) ?_
  refine dq [] [] (.iptr (ap e11) 3) rfl (an rfl rfl rfl) ?_
  refine dq [] [] (str e11.Action) rfl (aU rfl rfl) ?_
  refine dk 2 [50,49] [B (e11.Action==aE),str aE] ?_
  refine de 324 rfl rfl ?_
  refine sq h ?_ ?_<;>intro h
  ·refine cq 5 [8,9] [I (1),B true] 356 ?_
   exact ci rfl (hr _ (ak h) _ (qp [I (1),B true]))
  ·refine aq 1 ?_
   refine cq 6 [11] [I (aj (x8+1))] 372 ?_
   refine dC ?_
   exact rf [2,3,4,5,10,11] [1,2,3] (ih _ _ h hr hn :)
 ·refine aq 1 ?_
  exact rf [2,3,4,5] [1,2] (hn _ (ak h) :) (hk:=hK)
theorem ZV (c_1:Contract)(s_2:State)(aD:Int)(aE:ac)(r:Int×Bool)(h:Dn c_1 s_2 aD aE=some r):bq GX Tryz.f37 [false,false,false,false] 0 (GW (c_1,s_2,aD,aE)) (GY r):=by
 show Run _ _ (xU (c_1,s_2,aD,aE) r) [.code GZ] _
 refine rI 73 [(0,aa c_1),(1,ae s_2),(2,I aD),(3,str aE)] [] 1 ?_
 unfold Dn at h
 refine ck 13 [4,5,13,14,15] [] [1,17] [] [.hp 1 0 [] 2 0 0,.hp 17 0 [] 5 0 0,aa c_1,ae s_2,I aD] [some ⟨0,2,[aa c_1]⟩,some ⟨0,5,[ae s_2]⟩] 113 (by kernel_rfl) ?_
 obtain⟨r5,hr5,h⟩:=bS h
 refine oq 129 (B r5) rfl (cP (af8 hr5)) ?_
 refine cq 2 [18] [B (!r5)] 161 ?_
 obtain⟨y6,hy6,hy61,hy62⟩:=bJ h
 have j6:∀u6,y6=.inr u6→Run GX 0 (xU (c_1,s_2,aD,aE) r) (.code (cR (cL (cR GZ)))::.code (cR (cR GZ))::[]) (sT 73 [(2,I aD),(3,str aE),(4,.hp 1 0 [] 2 0 0),(5,.hp 2 0 [] 5 0 0),(22,B u6)] [⟨0,2,[aa c_1]⟩,⟨0,5,[ae s_2]⟩] 3):=by
  intro u6 hu
  replace h:=hy62 u6 hu
  refine sq h ?_ ?_<;>intro h
  ·refine cq 5 [8,9] [I (0),B false] 35 ?_
   obtain rfl:=sI h
   exact rP [I (0),B false]
  ·refine aq 1 ?_
   refine cq 6 [24] [B s_2.Over] 35 ?_
   refine sq h ?_ ?_<;>intro h
   ·refine cq 5 [8,9] [I (0),B true] 67 ?_
    obtain rfl:=sI h
    exact rP [I (0),B true]
   ·refine aq 1 ?_
    refine cq 5 [25,26,27] [aa c_1,ae s_2,I aD] 83 ?_
    obtain⟨r7,hr7,h⟩:=bS h
    refine oq 99 (.hs 83 0 [] 1 0 (r7.map I).length) rfl (cP (af7 hr7)) ?_
    refine cq 8 [10,11] [.hs 83 0 [] 1 0 (r7.map I).length,I (0)] 131 ?_
    obtain⟨y12,hy12,hy121,hy122⟩:=bJ h
    refine bV rfl ?_
    refine rf [2,3,4,5,10,11] [1,2,83] (Qg c_1 s_2 aD aE r7 rfl 0 _ hy12 (fun r' e st hq=>by rw[hy121 r' e] at hq;exact hq) fun u12 hu=>?_)
    replace h:=hy122 u12 hu
    refine ck 15 [12,56,57,58] [] [51] [] [.hp 51 0 [] 8 0 0,.hp 51 0 [] 8 0 0,I aD,str aE] [some ⟨0,8,[.agg [.isl false (c_1.Parties.map str),.isl false (c_1.Clauses.map ao),I s_2.Day,.isl false (s_2.Facts.map str),.isl false (s_2.Duties.map ah),.isl false (s_2.Balances.map I),B s_2.Over,B false]]⟩] 131 (by kernel_rfl) ?_
    obtain⟨r13,hr13,h⟩:=bS h
    refine oq 147 (I r13) rfl (bM rfl rfl (b7 rfl rfl rfl (aR (BI rfl rfl (gV (path:=[]) rfl rfl aQ rfl rfl)) (aR (bo rfl) (aR (bo rfl) cS))) (agt hr13) (.inl rfl) dH rfl rfl rfl)) ?_
    refine cq 3 [55] [B (decide (r13≥0))] 179 ?_
    refine sq h ?_ ?_<;>intro h
    ·refine cq 5 [8,9] [I (2),B true] 211 ?_
     obtain rfl:=sI h
     exact rP [I (2),B true]
    ·refine cq 5 [62,63,64] [.hp 51 0 [] 8 0 0,I aD,str aE] 227 ?_
     obtain⟨r14,hr14,h⟩:=bS h
     refine oq 243 (I r14) rfl (bM rfl rfl (b7 rfl rfl rfl (aR (BI rfl rfl (gV (path:=[]) rfl rfl aQ rfl rfl)) (aR (bo rfl) (aR (bo rfl) (aR (bo rfl) cS)))) (H8 hr14) (.inl rfl) dH rfl rfl rfl)) ?_
     refine cq 3 [61] [B (decide (r14≥0))] 275 ?_
     refine sq h ?_ ?_<;>intro h
     ·refine cq 5 [8,9] [I (3),B true] 307 ?_
      obtain rfl:=sI h
      exact rP [I (3),B true]
     ·refine cq 5 [68,69,70] [.hp 51 0 [] 8 0 0,I aD,str aE] 323 ?_
      obtain⟨r15,hr15,h⟩:=bS h
      refine oq 339 (I r15) rfl (bM rfl rfl (b7 rfl rfl rfl (aR (BI rfl rfl (gV (path:=[]) rfl rfl aQ rfl rfl)) (aR (bo rfl) (aR (bo rfl) (aR (bo rfl) cS)))) (H8 hr15) (.inl rfl) dH rfl rfl rfl)) ?_
      refine cq 3 [67] [B (decide (r15≥0))] 371 ?_
      refine sq h ?_ ?_<;>intro h
      ·refine cq 5 [8,9] [I (4),B true] 403 ?_
       obtain rfl:=sI h
       exact rP [I (4),B true]
      ·refine aq 1 ?_
       refine cq 6 [8,9] [I (0),B true] 403 ?_
       obtain rfl:=sI h
       exact rP [I (0),B true]
 have r6:∀r',y6=.inl r'→∀st,xU (c_1,s_2,aD,aE) r' st→(xU (c_1,s_2,aD,aE) r) st:=fun r' e st hq=>by rw[hy61 r' e] at hq;exact hq
 replace h:=hy6
 refine sp 18 h rfl ?_ ?_<;>intro h
 ·refine cq 5 [22] [B true] 225 ?_
  exact rf [2,3,4,5,22] [1,17] (j6 _ (ak h) :)
 ·refine cq 1 [19] [str aE] 177 ?_
  obtain⟨r16,hr16,h⟩:=bS h
  refine oy 193 (B r16) rfl (cP (qE hr16)) ?_
  refine cq 3 [22] [B (!r16)] 225 ?_
  exact rf [2,3,4,5,22] [1,17] (j6 _ (ak h) :)
theorem Wf {G:bZ}:bW G 37 Dp:=gT 4 0 (aO Wj (aO Wh (aO W6 (aO K7 (aO qG bv))))) ca Tryz.func37 (fun a r h=>ZV a.1 a.2.1 a.2.2.1 a.2.2.2 r h)
def E3:(Int×Int×Int)→List V:=cA I (cA I (oA I))
def E4 (r:Bool):V×List V:=(B r,[])
noncomputable def jb :=bf [false,false,false] E3 E4 fun x=>jq x.1 x.2.1 x.2.2
theorem ja {n_1:Int}{po:Int}{ml:Int}{r}(h:jq n_1 po ml=some r):jb.F (E3 (n_1,po,ml))=some (E4 r):=aL (aH bd (aH bd (aM bd))) h
noncomputable def TX :=aG Tryz.f99
noncomputable def M9 :=b9 []
def TW (x:Int×Int×Int)(r:Bool):St→Prop:=QF M9 Tryz.f99 [false,false,false] (E3 x) (E4 r)
theorem YU (n_1:Int)(po:Int)(ml:Int)(r:Bool)(h:jq n_1 po ml=some r):bq M9 Tryz.f99 [false,false,false] 0 (E3 (n_1,po,ml)) (E4 r):=by
 show Run _ _ (TW (n_1,po,ml) r) [.code TX] _
 refine rI 15 [(0,I n_1),(1,I po),(2,I ml)] [] 1 ?_
 unfold jq at h
 refine cq 10 [10] [B (decide (n_1≥po))] 81 ?_
 obtain⟨u4,hu4,h⟩:=lJ h
 have j4:Run M9 0 (TW (n_1,po,ml) r) (.code (cR (cR TX))::[]) (sT 15 [(6,B u4)] [] 1):=by
  obtain rfl:=sI h
  exact rP [B u4]
 replace h:=hu4
 clear hu4
 refine sp 10 h rfl ?_ ?_<;>intro h
 ·refine cq 6 [6] [B (decide (n_1≤ml))] 161 ?_
  subst h
  exact rf [6] [] (j4 :)
 ·refine cq 6 [6] [B false] 161 ?_
  subst h
  exact rf [6] [] (j4 :)
theorem jv {G:bZ}:bW G 99 jb:=gT 3 0 bv ca Tryz.func99 (fun a r h=>YU a.1 a.2.1 a.2.2 r h)
noncomputable def lb:Ent:=⟨[false,false],wy (qs str) (qs (V.int .u8)) fun s c=>some (I ((Lib.countByte s c.toNat.toUInt8:Nat):Int),[])⟩
theorem KW {s:ac}{c r:Int}(h:zy s c=some r):lb.F [str s,.int .u8 c]=some (I r,[]):=by
 cases h
 simp only[lb,wy,I3 bx,I3 YD,Option.bind_some]
theorem KX:Extern.findNext Tryz.f199=none:=by kernel_rfl
theorem KY:Extern.find Tryz.f199=some Extern.BytealgCount.count:=by kernel_rfl
theorem Aj {G:bZ}:bW G 199 lb:=Rn (g:=fun s c=>((Lib.countByte s c.toNat.toUInt8:Nat):Int)) Tryz.func199 rfl (by decide) KX KY fun s c w=>Lib.run_countString s c w
noncomputable def iY:Ent:=⟨[false,false],wy (qs str) (qs (V.int .u8)) fun s c=>some (I (Lib.indexByte s c.toNat.toUInt8),[])⟩
theorem zz {s:ac}{c r:Int}(h:sV s c=some r):iY.F [str s,.int .u8 c]=some (I r,[]):=by
 cases h
 simp only[iY,wy,I3 bx,I3 YD,Option.bind_some]
theorem zA:Extern.findNext Tryz.f232=none:=by kernel_rfl
theorem zB:Extern.find Tryz.f232=some Extern.BytealgIndexByte.indexByte:=by kernel_rfl
theorem vN {G:bZ}:bW G 232 iY:=Rn (g:=fun s c=>Lib.indexByte s c.toNat.toUInt8) Tryz.func232 rfl (by decide) zA zB fun s c w=>Lib.run_indexByteString s c w
def E7:(ac×Int)→List V:=cA str (oA (V.int .u8))
def E8 (r:Int):V×List V:=(I r,[])
noncomputable def Cc :=bf [false,false] E7 E8 fun x=>Nd x.1 x.2
theorem aeD {s_1:ac}{c_2:Int}{r}(h:Nd s_1 c_2=some r):Cc.F (E7 (s_1,c_2))=some (E8 r):=aL (aH bx (aM (PD (k:=.u8)))) h
noncomputable def aeF :=aG Tryz.f218
noncomputable def T0 :=b9 [(232,iY)]
def aeE (x:ac×Int)(r:Int):St→Prop:=QF T0 Tryz.f218 [false,false] (E7 x) (E8 r)
theorem YW (s_1:ac)(c_2:Int)(r:Int)(h:Nd s_1 c_2=some r):bq T0 Tryz.f218 [false,false] 0 (E7 (s_1,c_2)) (E8 r):=by
 show Run _ _ (aeE (s_1,c_2) r) [.code aeF] _
 refine rI 8 [(0,str s_1),(1,.int .u8 c_2)] [] 1 ?_
 unfold Nd at h
 refine cq 8 [5,6] [str s_1,.int .u8 c_2] 49 ?_
 obtain⟨r3,hr3,h⟩:=bS h
 refine oq 65 (I r3) rfl (cP (zz hr3)) ?_
 refine cq 2 [4] [I r3] 81 ?_
 obtain rfl:=sI h
 exact rP [I r3]
theorem T1 {G:bZ}:bW G 218 Cc:=gT 2 0 (aO vN bv) ca Tryz.func218 (fun a r h=>YW a.1 a.2 r h)
def E5:(ac×ac)→List V:=cA str (oA str)
def E6 (r:Int):V×List V:=(I r,[])
noncomputable def Cb :=bf [false,false] E5 E6 fun x=>Na x.1 x.2
theorem aeC {s_1:ac}{bw:ac}{r}(h:Na s_1 bw=some r):Cb.F (E5 (s_1,bw))=some (E6 r):=aL (aH bx (aM bx)) h
noncomputable def Nc :=aG Tryz.f200
noncomputable def Nb :=b9 [(218,Cc)]
def TY (x:ac×ac)(r:Int):St→Prop:=QF Nb Tryz.f200 [false,false] (E5 x) (E6 r)
theorem YV (s_1:ac)(bw:ac)(r:Int)(h:Na s_1 bw=some r):bq Nb Tryz.f200 [false,false] 0 (E5 (s_1,bw)) (E6 r):=by
 show Run _ _ (TY (s_1,bw) r) [.code Nc] _
 refine rI 143 [(0,str s_1),(1,str bw)] [] 1 ?_
 unfold Na at h
 refine cq 17 [5,19] [I (len bw),B ((len bw)==0)] 113 ?_
 obtain⟨u3,hu3,h⟩:=lJ h
 have j3:Run Nb 0 (TY (s_1,bw) r) (.code (cR (cL (cL (cR (cR Nc)))))::.blk 0::.code (cR (cR (cR Nc)))::[]) (sT 143 [(0,str s_1),(1,str bw),(5,I (len bw)),(16,B u3)] [] 1):=by
  refine sq h ?_ ?_<;>intro h
  ·refine cq 4 [4] [I (0)] 17 ?_
   obtain rfl:=sI h
   exact rP [I (0)]
  ·refine cq 6 [24] [B ((len bw)==1)] 49 ?_
   refine sq h ?_ ?_<;>intro h
   ·refine cq 4 [27,28] [str s_1,str bw] 81 ?_
    obtain⟨c4,hc4,h⟩:=bS h
    refine oq 97 (.int .u8 (c4.toNat:Int)) rfl (oK rfl rfl (tw rfl rfl hc4)) ?_
    obtain⟨r5,hr5,h⟩:=bS h
    refine oq 113 (I r5) rfl (cP (aeD hr5)) ?_
    refine cq 2 [4] [I r5] 129 ?_
    obtain rfl:=sI h
    exact rP [I r5]
   ·refine cq 8 [31] [B (decide ((len bw)≥(len s_1)))] 129 ?_
    refine sq h ?_ ?_<;>intro h
    ·refine cq 4 [4] [I (-1)] 145 ?_
     obtain rfl:=sI h
     exact rP [I (-1)]
    ·cases h
 replace h:=hu3
 clear hu3
 refine sp 19 h rfl ?_ ?_<;>intro h
 ·refine cq 6 [16] [B true] 193 ?_
  subst h
  exact rf [0,1,5,16] [] (j3 :)
 ·refine cq 6 [16] [B (bw==s_1)] 193 ?_
  subst h
  exact rf [0,1,5,16] [] (j3 :)
theorem TZ {G:bZ}:bW G 200 Cb:=gT 2 0 (aO T1 bv) ca Tryz.func200 (fun a r h=>YV a.1 a.2 r h)
def Ii:(ac×ac)→List V:=cA str (oA str)
def Ij (r:Int):V×List V:=(I r,[])
noncomputable def wi :=bf [false,false] Ii Ij fun x=>Ki x.1 x.2
theorem Xd {s_1:ac}{bw:ac}{r}(h:Ki s_1 bw=some r):wi.F (Ii (s_1,bw))=some (Ij r):=aL (aH bx (aM bx)) h
noncomputable def agB :=aG Tryz.f188
noncomputable def Xc :=b9 [(200,Cb)]
def agA (x:ac×ac)(r:Int):St→Prop:=QF Xc Tryz.f188 [false,false] (Ii x) (Ij r)
theorem aav (s_1:ac)(bw:ac)(r:Int)(h:Ki s_1 bw=some r):bq Xc Tryz.f188 [false,false] 0 (Ii (s_1,bw)) (Ij r):=by
 show Run _ _ (agA (s_1,bw) r) [.code agB] _
 refine rI 8 [(0,str s_1),(1,str bw)] [] 1 ?_
 unfold Ki at h
 refine cq 8 [5,6] [str s_1,str bw] 49 ?_
 obtain⟨r3,hr3,h⟩:=bS h
 refine oq 65 (I r3) rfl (cP (aeC hr3)) ?_
 refine cq 2 [4] [I r3] 81 ?_
 obtain rfl:=sI h
 exact rP [I r3]
theorem K8 {G:bZ}:bW G 188 wi:=gT 2 0 (aO TZ bv) ca Tryz.func188 (fun a r h=>aav a.1 a.2 r h)
def Ig:(ac×ac)→List V:=cA str (oA str)
def Ih (r:Int):V×List V:=(I r,[])
noncomputable def DZ :=bf [false,false] Ig Ih fun x=>N5 x.1 x.2
theorem agz {s_1:ac}{bw:ac}{r}(h:N5 s_1 bw=some r):DZ.F (Ig (s_1,bw))=some (Ih r):=aL (aH bx (aM bx)) h
noncomputable def Xa :=aG Tryz.f187
noncomputable def N6 :=b9 [(199,lb),(188,wi)]
def W9 (x:ac×ac)(r:Int):St→Prop:=QF N6 Tryz.f187 [false,false] (Ig x) (Ih r)
theorem QC (s_1:ac)(bw:ac):ct N6 0 (W9 (s_1,bw)) (cL (cL (cR (cR (cR (cR Xa)))))) 0 (Q9 s_1 bw) (fun u=>(sT 34 [] [] 1)) fun x5=>(sT 34 [(0,str x5.1),(1,str bw),(5,I x5.2)] [] 1):=ez (QB s_1 bw) fun {Q K} hK self ih x5 y h hr hn=>by
 unfold tf at h
 refine cq 5 [20,21] [str x5.1,str bw] 33 ?_
 obtain⟨r6,hr6,h⟩:=bS h
 refine oq 49 (I r6) rfl (cP (Xd hr6)) ?_
 refine cq 8 [6,24] [I r6,B (r6==(-1))] 97 ?_
 refine sq h ?_ ?_<;>intro h
 ·refine cq 5 [4] [I x5.2] 129 ?_
  exact ci rfl (hr _ (ak h) _ (qp [I x5.2]))
 ·refine aq 1 ?_
  refine cq 12 [5,28,32] [I (aj (x5.2+1)),str x5.1,I (aj (r6+(len bw)))] 225 ?_
  obtain⟨s7,hs7,h⟩:=bS h
  refine oq 241 (str s7) rfl (iK rfl rfl rfl rfl (Pv rfl rfl rfl hs7)) ?_
  refine cq 3 [0] [str s7] 257 ?_
  refine dC ?_
  exact rf [0,1,5] [] (ih _ _ h hr hn :)
theorem aau (s_1:ac)(bw:ac)(r:Int)(h:N5 s_1 bw=some r):bq N6 Tryz.f187 [false,false] 0 (Ig (s_1,bw)) (Ih r):=by
 show Run _ _ (W9 (s_1,bw) r) [.code Xa] _
 refine rI 34 [(0,str s_1),(1,str bw)] [] 1 ?_
 unfold N5 at h
 refine cq 11 [9] [B ((len bw)==0)] 65 ?_
 refine sq h ?_ ?_<;>intro h
 ·cases h
 ·refine aq 1 ?_
  refine cq 7 [15] [B ((len bw)==1)] 113 ?_
  refine sq h ?_ ?_<;>intro h
  ·refine cq 4 [16,17] [str s_1,str bw] 145 ?_
   obtain⟨c3,hc3,h⟩:=bS h
   refine oq 161 (.int .u8 (c3.toNat:Int)) rfl (oK rfl rfl (tw rfl rfl hc3)) ?_
   obtain⟨r4,hr4,h⟩:=bS h
   refine oq 177 (I r4) rfl (cP (KW hr4)) ?_
   refine cq 2 [4] [I r4] 193 ?_
   obtain rfl:=sI h
   exact rP [I r4]
  ·refine aq 1 ?_
   refine cq 5 [5] [I (0)] 129 ?_
   obtain⟨y8,hy8,hy81,hy82⟩:=bJ h
   refine bV rfl ?_
   refine rf [0,1,5] [] (QC s_1 bw rfl (s_1,0) _ hy8 (fun r' e st hq=>by rw[hy81 r' e] at hq;exact hq) fun u8 hu=>?_)
   replace h:=hy82 u8 hu
   cases h
theorem Xb {G:bZ}:bW G 187 DZ:=gT 2 0 (aO Aj (aO K8 bv)) ca Tryz.func187 (fun a r h=>aau a.1 a.2 r h)
def Ip:(ac×ac×Int×Int)→List V:=cA str (cA str (cA I (oA I)))
def Ir (r:(List ac)):V×List V:=(.usl 1 (r.map str),[])
noncomputable def D3 :=bf [false,false,false,false] Ip Ir fun x=>N8 x.1 x.2.1 x.2.2.1 x.2.2.2
theorem agF {s_1:ac}{ek:ac}{dW:Int}{n_4:Int}{r}(h:N8 s_1 ek dW n_4=some r):D3.F (Ip (s_1,ek,dW,n_4))=some (Ir r):=aL (aH bx (aH bx (aH bd (aM bd)))) h
noncomputable def N9 :=aG Tryz.f166
noncomputable abbrev acQ :=cL (cL (cL (cR (cR (cR (cR (cR (cR (cR (cR N9))))))))))
noncomputable def Iq :=b9 [(188,wi),(187,DZ)]
def yA (x:ac×ac×Int×Int)(r:(List ac)):St→Prop:=QF Iq Tryz.f166 [false,false,false,false] (Ip x) (Ir r)
theorem QD (s_1:ac)(ek:ac)(dW:Int)(n_4:Int)(u5:Int):ct Iq 0 (yA (s_1,ek,dW,n_4)) acQ 0 (zH s_1 ek dW n_4 u5) (fun u=>(sT 66 [(0,str u.1),(9,.hs 1 0 [] 1 0 (u.2.2.map str).length),(10,I u.2.1)] [⟨0,1,u.2.2.map str⟩] 2)) fun x7=>(sT 66 [(0,str x7.1),(1,str ek),(2,I dW),(3,I (aj ((if (aj ((len s_1)+1))<u5 then (aj ((len s_1)+1)) else u5) - 1))),(9,.hs 1 0 [] 1 0 (x7.2.2.map str).length),(10,I x7.2.1)] [⟨0,1,x7.2.2.map str⟩] 2):=ez (Bp s_1 ek dW n_4 u5) fun {Q K} hK self ih x7 y h hr hn=>by
 unfold tg at h
 refine cq 7 [36] [B (decide (x7.2.1<(aj ((if (aj ((len s_1)+1))<u5 then (aj ((len s_1)+1)) else u5) - 1))))] 50 ?_
 refine sq h ?_ ?_<;>intro h
 ·refine aq 1 ?_
  refine cq 5 [37,38] [str x7.1,str ek] 82 ?_
  obtain⟨r8,hr8,h⟩:=bS h
  refine oq 98 (I r8) rfl (cP (Xd hr8)) ?_
  refine cq 8 [11,41] [I r8,B (decide (r8<0))] 146 ?_
  refine sq h ?_ ?_<;>intro h
  ·refine aq 1 ?_
   exact rf [0,9,10] [1] (hn _ (ak h) :) (hk:=hK)
  ·refine aq 1 ?_
   refine cq 8 [42,43,44,47] [.hs 1 0 [] 1 0 (x7.2.2.map str).length,I x7.2.1,str x7.1,I (aj (r8+dW))] 242 ?_
   obtain⟨s9,hs9,h⟩:=bS h
   refine oq 258 (str s9) rfl (iK rfl rfl rfl rfl (Pv rfl rfl rfl hs9)) ?_
   obtain⟨e10,he10,h⟩:=bS h
   refine oq 274 (.hp 1 0 [] 1 (0+Int.toNat x7.2.1) 0) rfl (al rfl rfl rfl (d7 (f:=str) (xs:=x7.2.2) rfl rfl rfl he10)) ?_
   refine o0 290 rfl rfl (fZ rfl rfl (eX (path:=[]) (pl:=true) (e':=str s9) (es2':=(dM x7.2.2 x7.2.1 s9).map str) rfl (eb rfl) rfl rfl rfl aQ (dD (f:=str) (xs:=x7.2.2) he10) rfl rfl rfl (i9 (f:=str) (xs:=x7.2.2) (y:=s9)) ee 0 rfl)) ?_
   try rw[←io (f:=str) (xs:=x7.2.2) (i:=x7.2.1) (z:=s9)]
   refine cq 8 [50,54] [str x7.1,I (aj (r8+(len ek)))] 370 ?_
   obtain⟨s11,hs11,h⟩:=bS h
   refine oq 386 (str s11) rfl (iK rfl rfl rfl rfl (Pv rfl rfl rfl hs11)) ?_
   refine cq 8 [0,10] [str s11,I (aj (x7.2.1+1))] 450 ?_
   refine dC ?_
   exact rf [0,1,2,3,9,10] [1] (ih _ _ h hr hn :)
 ·refine aq 1 ?_
  exact rf [0,9,10] [1] (hn _ (ak h) :) (hk:=hK)
theorem aay (s_1:ac)(ek:ac)(dW:Int)(n_4:Int)(r:(List ac))(h:N8 s_1 ek dW n_4=some r):bq Iq Tryz.f166 [false,false,false,false] 0 (Ip (s_1,ek,dW,n_4)) (Ir r):=by
 show Run _ _ (yA (s_1,ek,dW,n_4) r) [.code N9] _
 refine rI 66 [(0,str s_1),(1,str ek),(2,I dW),(3,I n_4)] [] 1 ?_
 unfold N8 at h
 refine cq 10 [13] [B (n_4==0)] 49 ?_
 refine sq h ?_ ?_<;>intro h
 ·refine cq 4 [8] [.isl true []] 65 ?_
  refine Ab 8 0 1 81 (.hs 65 0 [] 1 0 0) rfl rfl rfl rfl rfl ?_
  obtain rfl:=sI h
  exact ci rfl ⟨_,fin (vs:=[.hs 65 0 [] 1 0 0]) rfl (fU (fC rfl (cZ (k:=0) (es:=[]) rfl rfl)) eg) rfl (dh (dh (dh (dh fa)))),eW⟩
 ·refine aq 1 ?_
  refine cq 6 [15] [B (ek==([]:ac))] 81 ?_
  refine sq h ?_ ?_<;>intro h
  ·cases h
  ·refine aq 1 ?_
   refine cq 6 [20] [B (decide (n_4<0))] 113 ?_
   obtain⟨y5,hy5,hy51,hy52⟩:=bJ h
   have j5:∀u5,y5=.inr u5→Run Iq 0 (yA (s_1,ek,dW,n_4) r) (.code (cR (cR (cR (cR N9))))::[]) (sT 66 [(0,str s_1),(1,str ek),(2,I dW),(3,I u5)] [] 1):=by
    intro u5 hu
    replace h:=hy52 u5 hu
    refine cq 12 [3,30] [I (if (aj ((len s_1)+1))<u5 then (aj ((len s_1)+1)) else u5),I (if (aj ((len s_1)+1))<u5 then (aj ((len s_1)+1)) else u5)] 113 ?_
    obtain⟨m6,hm6,h⟩:=bS h
    refine oq 129 (.hs 113 0 [] 1 0 (m6.map str).length) rfl (lB rfl rfl (Jg (f:=str) rfl rfl rfl (by decide) hm6 rfl)) ?_
    refine cq 14 [3,9,10] [I (aj ((if (aj ((len s_1)+1))<u5 then (aj ((len s_1)+1)) else u5) - 1)),.hs 113 0 [] 1 0 (m6.map str).length,I (0)] 209 ?_
    obtain⟨y12,hy12,hy121,hy122⟩:=bJ h
    refine bV rfl ?_
    refine rf [0,1,2,3,9,10] [113] (QD s_1 ek dW n_4 u5 rfl (s_1,0,m6) _ hy12 (fun r' e st hq=>by rw[hy121 r' e] at hq;exact hq) fun u12 hu=>?_)
    replace h:=hy122 u12 hu
    refine cq 5 [58,59,60] [.hs 1 0 [] 1 0 (u12.2.2.map str).length,I u12.2.1,str u12.1] 50 ?_
    obtain⟨e13,he13,h⟩:=bS h
    refine oq 66 (.hp 1 0 [] 1 (0+Int.toNat u12.2.1) 0) rfl (al rfl rfl rfl (d7 (f:=str) (xs:=u12.2.2) rfl rfl rfl he13)) ?_
    refine o0 82 rfl rfl (fZ rfl rfl (eX (path:=[]) (pl:=true) (e':=str u12.1) (es2':=(dM u12.2.2 u12.2.1 u12.1).map str) rfl (eb rfl) rfl rfl rfl aQ (dD (f:=str) (xs:=u12.2.2) he13) rfl rfl rfl (i9 (f:=str) (xs:=u12.2.2) (y:=u12.1)) ee 0 rfl)) ?_
    try rw[←io (f:=str) (xs:=u12.2.2) (i:=u12.2.1) (z:=u12.1)]
    refine cq 6 [62,64] [.hs 1 0 [] 1 0 ((dM u12.2.2 u12.2.1 u12.1).map str).length,I (aj (u12.2.1+1))] 130 ?_
    obtain⟨s14,hs14,h⟩:=bS h
    refine oq 146 (.hs 1 0 [] 1 (0+Int.toNat (0)) (Int.toNat (aj (u12.2.1+1)) - Int.toNat (0))) rfl (iK rfl rfl rfl rfl (vJ (f:=str) (xs:=(dM u12.2.2 u12.2.1 u12.1)) rfl rfl rfl rfl rfl hs14)) ?_
    refine cq 2 [8] [.hs 1 0 [] 1 (0+Int.toNat (0)) (Int.toNat (aj (u12.2.1+1)) - Int.toNat (0))] 162 ?_
    obtain⟨p15,hp15,h⟩:=bS h
    obtain rfl:=sI h
    exact ci rfl ⟨_,fin (vs:=[.hs 1 0 [] 1 (0+Int.toNat (0)) (Int.toNat (aj (u12.2.1+1)) - Int.toNat (0))]) rfl (fU (fC rfl (Xr (path:=[]) (f:=str) (xs:=(dM u12.2.2 u12.2.1 u12.1)) rfl rfl aQ hp15 rfl nM)) eg) rfl (dh (dh (dh (dh fa)))),eW⟩
   have r5:∀r',y5=.inl r'→∀st,yA (s_1,ek,dW,n_4) r' st→(yA (s_1,ek,dW,n_4) r) st:=fun r' e st hq=>by rw[hy51 r' e] at hq;exact hq
   replace h:=hy5
   refine sq h ?_ ?_<;>intro h
   ·refine cq 3 [21,22] [str s_1,str ek] 145 ?_
    obtain⟨r16,hr16,h⟩:=bS h
    refine oq 161 (I r16) rfl (cP (agz hr16)) ?_
    refine cq 3 [3] [I (aj (r16+1))] 193 ?_
    exact rf [0,1,2,3] [] (j5 _ (ak h) :)
   ·refine aq 1 ?_
    exact rf [0,1,2,3] [] (j5 _ (ak h) :)
theorem Xg {G:bZ}:bW G 166 D3:=gT 4 0 (aO K8 (aO Xb bv)) ca Tryz.func166 (fun a r h=>aay a.1 a.2.1 a.2.2.1 a.2.2.2 r h)
def Ik:(ac×ac)→List V:=cA str (oA str)
def Il (r:(List ac)):V×List V:=(.usl 1 (r.map str),[])
noncomputable def D2 :=bf [false,false] Ik Il fun x=>D1 x.1 x.2
theorem agC {s_1:ac}{ek:ac}{r}(h:D1 s_1 ek=some r):D2.F (Ik (s_1,ek))=some (Il r):=aL (aH bx (aM bx)) h
noncomputable def agE :=aG Tryz.f130
noncomputable def Xe :=b9 [(166,D3)]
def agD (x:ac×ac)(r:(List ac)):St→Prop:=QF Xe Tryz.f130 [false,false] (Ik x) (Il r)
theorem aaw (s_1:ac)(ek:ac)(r:(List ac))(h:D1 s_1 ek=some r):bq Xe Tryz.f130 [false,false] 0 (Ik (s_1,ek)) (Il r):=by
 show Run _ _ (agD (s_1,ek) r) [.code agE] _
 refine rI 8 [(0,str s_1),(1,str ek)] [] 1 ?_
 unfold D1 at h
 refine cq 8 [5,6] [str s_1,str ek] 49 ?_
 obtain⟨r3,hr3,h⟩:=bS h
 refine oq 65 (.hs 49 0 [] 1 0 (r3.map str).length) rfl (cP (agF hr3)) ?_
 refine cq 2 [4] [.hs 49 0 [] 1 0 (r3.map str).length] 81 ?_
 obtain rfl:=sI h
 exact ci rfl ⟨_,fin (vs:=[.hs 49 0 [] 1 0 (r3.map str).length]) rfl (fU (fC rfl (cZ rfl rfl)) eg) rfl (dh (dh fa)),eW⟩
theorem Xf {G:bZ}:bW G 130 D2:=gT 2 0 (aO Xg bv) ca Tryz.func130 (fun a r h=>aaw a.1 a.2 r h)
def GC:((List ac)×ac)→List V:=cA (fP str) (oA str)
def GD (r:Int):V×List V:=(I r,[])
noncomputable def Df :=bf [false,false] GC GD fun x=>xN x.1 x.2
theorem af1 {s_1:List ac}{v_2:ac}{r}(h:xN s_1 v_2=some r):Df.F (GC (s_1,v_2))=some (GD r):=aL (aH (bC bx) (aM bx)) h
noncomputable def V0 :=aG Tryz.f165
noncomputable def NE :=b9 []
def VZ (x:(List ac)×ac)(r:Int):St→Prop:=QF NE Tryz.f165 [false,false] (GC x) (GD r)
theorem P3 (s_1:List ac)(v_2:ac):ct NE 0 (VZ (s_1,v_2)) (cL (cL (cR (cL (cR V0))))) 0 (pO s_1 v_2) (fun u=>(sT 19 [] [] 1)) fun x3=>(sT 19 [(0,.isl false (s_1.map str)),(1,str v_2),(7,I (len s_1)),(8,I x3)] [] 1):=ez (AK s_1 v_2) fun {Q K} hK self ih x3 y h hr hn=>by
 unfold kz at h
 refine cq 5 [9] [B (decide (x3<(len s_1)))] 17 ?_
 refine sq h ?_ ?_<;>intro h
 ·refine aq 1 ?_
  refine cq 12 [5,11,12,13] [I x3,str v_2,.isl false (s_1.map str),I x3] 97 ?_
  obtain⟨e4,he4,h⟩:=bS h
  refine oq 113 (.iptr (str e4) 0) rfl (al rfl rfl rfl (aW rfl rfl rfl rfl he4)) ?_
  refine cq 3 [16] [B (v_2==e4)] 145 ?_
  refine sq h ?_ ?_<;>intro h
  ·refine cq 5 [4] [I x3] 177 ?_
   exact ci rfl (hr _ (ak h) _ (qp [I x3]))
  ·refine aq 1 ?_
   refine cq 5 [8] [I (aj (x3+1))] 177 ?_
   refine dC ?_
   exact rf [0,1,7,8] [] (ih _ _ h hr hn :)
 ·refine aq 1 ?_
  exact rf [] [] (hn _ (ak h) :) (hk:=hK)
theorem ZN (s_1:List ac)(v_2:ac)(r:Int)(h:xN s_1 v_2=some r):bq NE Tryz.f165 [false,false] 0 (GC (s_1,v_2)) (GD r):=by
 show Run _ _ (VZ (s_1,v_2) r) [.code V0] _
 refine rI 19 [(0,.isl false (s_1.map str)),(1,str v_2)] [] 1 ?_
 unfold xN at h
 refine cq 8 [6] [.isl false (s_1.map str)] 33 ?_
 refine oq 49 (I (len s_1)) rfl (bA rfl rfl rfl (bR rfl)) ?_
 refine cq 3 [8] [I (0)] 65 ?_
 obtain⟨y5,hy5,hy51,hy52⟩:=bJ h
 refine bV rfl ?_
 refine rf [0,1,7,8] [] (P3 s_1 v_2 rfl 0 _ hy5 (fun r' e st hq=>by rw[hy51 r' e] at hq;exact hq) fun u5 hu=>?_)
 replace h:=hy52 u5 hu
 refine cq 4 [4] [I (-1)] 17 ?_
 obtain rfl:=sI h
 exact rP [I (-1)]
theorem V1 {G:bZ}:bW G 165 Df:=gT 2 0 bv ca Tryz.func165 (fun a r h=>ZN a.1 a.2 r h)
def Gk:((List ac)×ac)→List V:=cA (fP str) (oA str)
def Gm (r:Bool):V×List V:=(B r,[])
noncomputable def pN :=bf [false,false] Gk Gm fun x=>oV x.1 x.2
theorem Gl {s_1:List ac}{v_2:ac}{r}(h:oV s_1 v_2=some r):pN.F (Gk (s_1,v_2))=some (Gm r):=aL (aH (bC bx) (aM bx)) h
noncomputable def afT :=aG Tryz.f129
noncomputable def VD :=b9 [(165,Df)]
def afS (x:(List ac)×ac)(r:Bool):St→Prop:=QF VD Tryz.f129 [false,false] (Gk x) (Gm r)
theorem ZF (s_1:List ac)(v_2:ac)(r:Bool)(h:oV s_1 v_2=some r):bq VD Tryz.f129 [false,false] 0 (Gk (s_1,v_2)) (Gm r):=by
 show Run _ _ (afS (s_1,v_2) r) [.code afT] _
 refine rI 9 [(0,.isl false (s_1.map str)),(1,str v_2)] [] 1 ?_
 unfold oV at h
 refine cq 8 [5,6] [.isl false (s_1.map str),str v_2] 49 ?_
 obtain⟨r3,hr3,h⟩:=bS h
 refine oq 65 (I r3) rfl (cP (af1 hr3)) ?_
 refine cq 3 [4] [B (decide (r3≥0))] 97 ?_
 obtain rfl:=sI h
 exact rP [B (decide (r3≥0))]
theorem te {G:bZ}:bW G 129 pN:=gT 2 0 (aO V1 bv) ca Tryz.func129 (fun a r h=>ZF a.1 a.2 r h)
def Mi:ac→List V:=oA str
def Mj (r:Bool):V×List V:=(B r,[])
noncomputable def pU :=bf [false] Mi Mj fun x=>vj x
theorem zI {s_1:ac}{r}(h:vj s_1=some r):pU.F (Mi s_1)=some (Mj r):=aL (aM bx) h
noncomputable def zJ :=aG Tryz.f81
noncomputable abbrev sv :=cL (cL (cR (cL (cR (cR zJ)))))
noncomputable abbrev Iu :=cR (cR (cR sv))
noncomputable abbrev Iv :=cR (cR (cR (cL (cL (cR (cR sv))))))
noncomputable def rp :=b9 [(99,jb),(130,D2),(129,pN)]
def th (x:ac)(r:Bool):St→Prop:=QF rp Tryz.f81 [false] (Mi x) (Mj r)
theorem Sn (s_1:ac):ct rp 0 (th s_1) sv 0 (yB s_1) (fun u=>(sT 46 [(0,str s_1)] [] 1)) fun x4=>(sT 46 [(0,str s_1),(20,I (len s_1)),(21,I x4)] [] 1):=ez (Iw s_1) fun {Q K} hK self ih x4 y h hr hn=>by
 unfold pV at h
 refine cq 5 [22] [B (decide (x4<(len s_1)))] 17 ?_
 refine sq h ?_ ?_<;>intro h
 ·refine aq 1 ?_
  refine cq 11 [24,25] [str s_1,I x4] 81 ?_
  obtain⟨c5,hc5,h⟩:=bS h
  refine oq 97 (.int .u8 (c5.toNat:Int)) rfl (oK rfl rfl (tw rfl rfl hc5)) ?_
  refine cq 7 [4,29] [.int .u8 (c5.toNat:Int),B (decide ((c5.toNat:Int)<97))] 161 ?_
  obtain⟨u6,hu6,h⟩:=lJ h
  have j6:Run rp 0 Q (.code Iv::.blk 1::.code Iu::.lp sv::.blk 0::K) (sT 46 [(0,str s_1),(20,I (len s_1)),(21,I x4),(40,B u6)] [] 1):=by
   refine sq h ?_ ?_<;>intro h
   ·refine cq 4 [2] [B false] 17 ?_
    exact ci rfl (hr _ (ak h) _ (qp [B false]))
   ·refine aq 1 ?_
    refine cq 5 [21] [I (aj (x4+1))] 33 ?_
    refine dC ?_
    exact rf [0,20,21] [] (ih _ _ h hr hn :)
  replace h:=hu6
  clear hu6
  refine sp 29 h rfl ?_ ?_<;>intro h
  ·refine cq 7 [33,36] [B true,B (decide ((c5.toNat:Int)<48))] 273 ?_
   obtain⟨u7,hu7,h⟩:=lJ h
   have j7:Run rp 0 Q (.code Iv::.blk 1::.code Iu::.lp sv::.blk 0::K) (sT 46 [(0,str s_1),(20,I (len s_1)),(21,I x4),(40,B u7)] [] 1):=by
    subst h
    exact rf [0,20,21,40] [] (j6 :)
   replace h:=hu7
   clear hu7
   refine sp 36 h rfl ?_ ?_<;>intro h
   ·refine cq 5 [40] [B true] 337 ?_
    subst h
    exact rf [0,20,21,40] [] (j7 :)
   ·refine cq 5 [40] [B (decide ((c5.toNat:Int)>57))] 337 ?_
    subst h
    exact rf [0,20,21,40] [] (j7 :)
  ·refine cq 4 [33] [B (decide ((c5.toNat:Int)>122))] 225 ?_
   obtain⟨u8,hu8,h⟩:=lJ h
   have j8:Run rp 0 Q (.code Iv::.blk 1::.code Iu::.lp sv::.blk 0::K) (sT 46 [(0,str s_1),(20,I (len s_1)),(21,I x4),(40,B u8)] [] 1):=by
    subst h
    exact rf [0,20,21,40] [] (j6 :)
   replace h:=hu8
   clear hu8
   refine sp 33 h rfl ?_ ?_<;>intro h
   ·refine cq 3 [36] [B (decide ((c5.toNat:Int)<48))] 273 ?_
    obtain⟨u9,hu9,h⟩:=lJ h
    have j9:Run rp 0 Q (.code Iv::.blk 1::.code Iu::.lp sv::.blk 0::K) (sT 46 [(0,str s_1),(20,I (len s_1)),(21,I x4),(40,B u9)] [] 1):=by
     subst h
     exact rf [0,20,21,40] [] (j8 :)
    replace h:=hu9
    clear hu9
    refine sp 36 h rfl ?_ ?_<;>intro h
    ·refine cq 5 [40] [B true] 337 ?_
     subst h
     exact rf [0,20,21,40] [] (j9 :)
    ·refine cq 5 [40] [B (decide ((c5.toNat:Int)>57))] 337 ?_
     subst h
     exact rf [0,20,21,40] [] (j9 :)
   ·refine cq 8 [40] [B false] 337 ?_
    subst h
    exact rf [0,20,21,40] [] (j8 :)
 ·refine aq 1 ?_
  exact rf [0] [] (hn _ (ak h) :) (hk:=hK)
theorem acR (s_1:ac)(r:Bool)(h:vj s_1=some r):bq rp Tryz.f81 [false] 0 (Mi s_1) (Mj r):=by
 show Run _ _ (th s_1 r) [.code zJ] _
 refine rI 46 [(0,str s_1)] [] 1 ?_
 unfold vj at h
 refine cq 9 [6] [I (len s_1)] 49 ?_
 obtain⟨r2,hr2,h⟩:=bS h
 refine oq 65 (B r2) rfl (cP (ja hr2)) ?_
 refine cq 2 [9] [B (!r2)] 97 ?_
 obtain⟨y3,hy3,hy31,hy32⟩:=bJ h
 have j3:∀u3,y3=.inr u3→Run rp 0 (th s_1 r) (.code (cR (cL (cR zJ)))::.code (cR (cR zJ))::[]) (sT 46 [(0,str s_1),(18,B u3)] [] 1):=by
  intro u3 hu
  replace h:=hy32 u3 hu
  refine sq h ?_ ?_<;>intro h
  ·refine cq 4 [2] [B false] 17 ?_
   obtain rfl:=sI h
   exact rP [B false]
  ·refine aq 1 ?_
   refine cq 8 [20,21] [I (len s_1),I (0)] 49 ?_
   obtain⟨y10,hy10,hy101,hy102⟩:=bJ h
   refine bV rfl ?_
   refine rf [0,20,21] [] (Sn s_1 rfl 0 _ hy10 (fun r' e st hq=>by rw[hy101 r' e] at hq;exact hq) fun u10 hu=>?_)
   replace h:=hy102 u10 hu
   refine aq 2 ?_
   obtain⟨r11,hr11,h⟩:=bS h
   refine oq 17 (.hs 1 0 [] 1 0 (r11.map str).length) rfl (cP (agC hr11)) ?_
   refine cq 1 [43] [str s_1] 33 ?_
   obtain⟨r12,hr12,h⟩:=bS h
   refine oq 49 (B r12) rfl (bM rfl rfl (b7 rfl rfl rfl (aR (BI rfl rfl (fT (f:=str) (g:=str) (xs:=r11) rfl rfl (bX fy))) (aR (bo rfl) cS)) (Gl hr12) (.inl rfl) dH rfl rfl rfl)) ?_
   refine cq 3 [2] [B (!r12)] 81 ?_
   obtain rfl:=sI h
   exact rP [B (!r12)]
 have r3:∀r',y3=.inl r'→∀st,th s_1 r' st→(th s_1 r) st:=fun r' e st hq=>by rw[hy31 r' e] at hq;exact hq
 replace h:=hy3
 refine sp 9 h rfl ?_ ?_<;>intro h
 ·refine cq 10 [18] [B true] 241 ?_
  exact rf [0,18] [] (j3 _ (ak h) :)
 ·refine cq 1 [10] [str s_1] 113 ?_
  obtain⟨c13,hc13,h⟩:=bS h
  refine oy 129 (.int .u8 (c13.toNat:Int)) rfl (oK rfl rfl (tw rfl rfl hc13)) ?_
  refine cq 3 [14] [B (decide ((c13.toNat:Int)<97))] 177 ?_
  obtain⟨y14,hy14,hy141,hy142⟩:=bL h
  have j14:∀u14,y14=.inr u14→Run rp 0 (th s_1 r) (.code (cR (cL (cR zJ)))::.code (cR (cR zJ))::[]) (sT 46 [(0,str s_1),(18,B u14)] [] 1):=by
   intro u14 hu
   replace h:=hy142 u14 hu
   exact rf [0,18] [] (j3 _ (ak h) :)
  have r14:∀r',y14=.inl r'→∀st,th s_1 r' st→(th s_1 r) st:=fun r' e st hq=>r3 r' (hy141 r' e) st hq
  replace h:=hy14
  refine sp 14 h rfl ?_ ?_<;>intro h
  ·refine cq 5 [18] [B true] 241 ?_
   exact rf [0,18] [] (j14 _ (ak h) :)
  ·refine cq 1 [15] [str s_1] 193 ?_
   obtain⟨c15,hc15,h⟩:=bS h
   refine oy 209 (.int .u8 (c15.toNat:Int)) rfl (oK rfl rfl (tw rfl rfl hc15)) ?_
   refine cq 3 [18] [B (decide ((c15.toNat:Int)>122))] 241 ?_
   exact rf [0,18] [] (j14 _ (ak h) :)
theorem su {G:bZ}:bW G 81 pU:=gT 1 0 (aO jv (aO Xf (aO te bv))) ca Tryz.func81 (fun a r h=>acR a r h)
def Mo:(List ac)→List V:=oA (fP str)
def Mq (r:Bool):V×List V:=(B r,[])
noncomputable def Km :=bf [false] Mo Mq fun x=>Oa x
theorem ahr {ay:List ac}{r}(h:Oa ay=some r):Km.F (Mo ay)=some (Mq r):=aL (aM (bC bx)) h
noncomputable def IB :=aG Tryz.f98
noncomputable def Mp :=b9 [(81,pU),(129,pN),(99,jb)]
def Sr (x:(List ac))(r:Bool):St→Prop:=QF Mp Tryz.f98 [false] (Mo x) (Mq r)
theorem Ss (ay:List ac):ct Mp 0 (Sr ay) (cL (cL (cR (cL (cR IB))))) 0 (yC ay) (fun u=>(sT 26 [(0,.isl false (ay.map str))] [] 1)) fun x2=>(sT 26 [(0,.isl false (ay.map str)),(5,.isl false (ay.map str)),(6,I (len ay)),(7,I x2)] [] 1):=ez (IC ay) fun {Q K} hK self ih x2 y h hr hn=>by
 unfold nC at h
 refine cq 5 [8] [B (decide (x2<(len ay)))] 17 ?_
 refine sq h ?_ ?_<;>intro h
 ·refine aq 1 ?_
  refine cq 5 [9] [I x2] 33 ?_
  obtain⟨e3,he3,h⟩:=bS h
  refine oq 49 (.iptr (str e3) 0) rfl (al rfl rfl rfl (aW rfl rfl rfl rfl he3)) ?_
  refine cq 7 [3,4,12] [I x2,str e3,str e3] 113 ?_
  obtain⟨r4,hr4,h⟩:=bS h
  refine oq 129 (B r4) rfl (cP (zI hr4)) ?_
  refine cq 2 [15] [B (!r4)] 161 ?_
  obtain⟨y5,hy5,hy51,hy52⟩:=bL h
  have j5:∀u5,y5=.inr u5→Run Mp 0 Q (.code (cR (cR (cL (cL (cR (cR (cL (cL (cR (cL (cR IB)))))))))))::.blk 1::.code (cR (cR (cR (cL (cL (cR (cL (cR IB))))))))::.lp (cL (cL (cR (cL (cR IB)))))::.blk 0::K) (sT 26 [(0,.isl false (ay.map str)),(5,.isl false (ay.map str)),(6,I (len ay)),(7,I x2),(21,B u5)] [] 1):=by
   intro u5 hu
   replace h:=hy52 u5 hu
   refine sq h ?_ ?_<;>intro h
   ·refine cq 4 [2] [B false] 17 ?_
    exact ci rfl (hr _ (ak h) _ (qp [B false]))
   ·refine aq 1 ?_
    refine cq 5 [7] [I (aj (x2+1))] 33 ?_
    refine dC ?_
    exact rf [0,5,6,7] [] (ih _ _ h hr hn :)
  have r5:∀r',y5=.inl r'→∀st,Sr ay r' st→Q st:=fun r' e st hq=>hr r' (hy51 r' e) st hq
  replace h:=hy5
  refine sp 15 h rfl ?_ ?_<;>intro h
  ·refine cq 7 [21] [B true] 257 ?_
   exact rf [0,5,6,7,21] [] (j5 _ (ak h) :)
  ·refine cq 2 [16,17] [.isl false (ay.map str),I x2] 193 ?_
   obtain⟨s6,hs6,h⟩:=bS h
   refine oy 209 (.isl false (s6.map str)) rfl (iK rfl rfl rfl rfl (zr rfl rfl (fun y=>(kL y).1) rfl rfl hs6)) ?_
   refine cq 1 [19] [str e3] 225 ?_
   obtain⟨r7,hr7,h⟩:=bS h
   refine oy 241 (B r7) rfl (cP (Gl hr7)) ?_
   refine cq 2 [21] [B r7] 257 ?_
   exact rf [0,5,6,7,21] [] (j5 _ (ak h) :)
 ·refine aq 1 ?_
  exact rf [0] [] (hn _ (ak h) :) (hk:=hK)
theorem acV (ay:List ac)(r:Bool)(h:Oa ay=some r):bq Mp Tryz.f98 [false] 0 (Mo ay) (Mq r):=by
 show Run _ _ (Sr ay r) [.code IB] _
 refine rI 26 [(0,.isl false (ay.map str))] [] 1 ?_
 unfold Oa at h
 refine cq 8 [5] [.isl false (ay.map str)] 33 ?_
 refine oq 49 (I (len ay)) rfl (bA rfl rfl rfl (bR rfl)) ?_
 refine cq 3 [7] [I (0)] 65 ?_
 obtain⟨y8,hy8,hy81,hy82⟩:=bJ h
 refine bV rfl ?_
 refine rf [0,5,6,7] [] (Ss ay rfl 0 _ hy8 (fun r' e st hq=>by rw[hy81 r' e] at hq;exact hq) fun u8 hu=>?_)
 replace h:=hy82 u8 hu
 refine cq 3 [23] [.isl false (ay.map str)] 17 ?_
 refine oq 33 (I (len ay)) rfl (bA rfl rfl rfl (bR rfl)) ?_
 obtain⟨r9,hr9,h⟩:=bS h
 refine oq 49 (B r9) rfl (cP (ja hr9)) ?_
 refine cq 2 [2] [B r9] 65 ?_
 obtain rfl:=sI h
 exact rP [B r9]
theorem aaB {G:bZ}:bW G 98 Km:=gT 1 0 (aO su (aO te (aO jv bv))) ca Tryz.func98 (fun a r h=>acV a r h)
def Mt:(Clause×ac)→List V:=cA ao (oA (fun x:ac=>.iptr (str x) 0))
def Mu (r:Bool):V×List V:=(B r,[])
noncomputable def Ko :=bf [false,false] Mt Mu fun x=>Xk x.1 x.2
theorem ahu {x_1:Clause}{a_2:ac}{r}(h:Xk x_1 a_2=some r):Ko.F (Mt (x_1,a_2))=some (Mu r):=aL (aH cG (aM (eZ bx))) h
noncomputable def ahw :=aG Tryz.f175
noncomputable def ab9 :=b9 []
def ahv (x:Clause×ac)(r:Bool):St→Prop:=QF ab9 Tryz.f175 [false,false] (Mt x) (Mu r)
theorem acX (x_1:Clause)(a_2:ac)(r:Bool)(h:Xk x_1 a_2=some r):bq ab9 Tryz.f175 [false,false] 0 (Mt (x_1,a_2)) (Mu r):=by
 show Run _ _ (ahv (x_1,a_2) r) [.code ahw] _
 refine rI 8 [(0,ap x_1),(1,.iptr (str a_2) 0)] [] 1 ?_
 unfold Xk at h
 refine cq 13 [3] [B (x_1.Id==a_2)] 113 ?_
 obtain rfl:=sI h
 exact rP [B (x_1.Id==a_2)]
theorem aaD {G:bZ}:bW G 175 Ko:=gT 2 0 bv ca Tryz.func175 (fun a r h=>acX a.1 a.2 r h)
def Gn:((List Clause)×ac)→List V:=cA (fP ao) (oA (fun x:ac=>(.fn 175 [.iptr (str x) 0]:V)))
def Gp (r:Int):V×List V:=(I r,[])
noncomputable def C8 :=bf [false,false] Gn Gp fun x=>JZ x.1 x.2
theorem afU {s_1:List Clause}{f_2:ac}{r}(h:JZ s_1 f_2=some r):C8.F (Gn (s_1,f_2))=some (Gp r):=aL (aH (bC cG) (aM (i7 bx))) h
noncomputable def VF :=aG Tryz.f110
noncomputable def Nx :=b9 [(175,Ko)]
def VE (x:(List Clause)×ac)(r:Int):St→Prop:=QF Nx Tryz.f110 [false,false] (Gn x) (Gp r)
theorem PW (s_1:List Clause)(f_2:ac):ct Nx 0 (VE (s_1,f_2)) (cL (cL (cR (cL (cR VF))))) 0 (uB s_1 f_2) (fun u=>(sT 19 [] [] 1)) fun x3=>(sT 19 [(0,.isl false (s_1.map ao)),(1,.fn 175 [.iptr (str f_2) 0]),(7,I (len s_1)),(8,I x3)] [] 1):=ez (AD s_1 f_2) fun {Q K} hK self ih x3 y h hr hn=>by
 unfold oa at h
 refine cq 5 [9] [B (decide (x3<(len s_1)))] 17 ?_
 refine sq h ?_ ?_<;>intro h
 ·refine aq 1 ?_
  refine cq 12 [5,11,12,13] [I x3,.fn 175 [.iptr (str f_2) 0],.isl false (s_1.map ao),I x3] 97 ?_
  obtain⟨e4,he4,h⟩:=bS h
  refine oq 113 (.iptr (ap e4) 0) rfl (al rfl rfl rfl (aW rfl rfl rfl rfl he4)) ?_
  refine cq 1 [15] [ap e4] 129 ?_
  obtain⟨r5,hr5,h⟩:=bS h
  refine oq 145 (B r5) rfl (cP (ahu hr5)) ?_
  refine aq 1 ?_
  refine sq h ?_ ?_<;>intro h
  ·refine cq 5 [4] [I x3] 177 ?_
   exact ci rfl (hr _ (ak h) _ (qp [I x3]))
  ·refine aq 1 ?_
   refine cq 5 [8] [I (aj (x3+1))] 177 ?_
   refine dC ?_
   exact rf [0,1,7,8] [] (ih _ _ h hr hn :)
 ·refine aq 1 ?_
  exact rf [] [] (hn _ (ak h) :) (hk:=hK)
theorem ZG (s_1:List Clause)(f_2:ac)(r:Int)(h:JZ s_1 f_2=some r):bq Nx Tryz.f110 [false,false] 0 (Gn (s_1,f_2)) (Gp r):=by
 show Run _ _ (VE (s_1,f_2) r) [.code VF] _
 refine rI 19 [(0,.isl false (s_1.map ao)),(1,.fn 175 [.iptr (str f_2) 0])] [] 1 ?_
 unfold JZ at h
 refine cq 8 [6] [.isl false (s_1.map ao)] 33 ?_
 refine oq 49 (I (len s_1)) rfl (bA rfl rfl rfl (bR rfl)) ?_
 refine cq 3 [8] [I (0)] 65 ?_
 obtain⟨y6,hy6,hy61,hy62⟩:=bJ h
 refine bV rfl ?_
 refine rf [0,1,7,8] [] (PW s_1 f_2 rfl 0 _ hy6 (fun r' e st hq=>by rw[hy61 r' e] at hq;exact hq) fun u6 hu=>?_)
 replace h:=hy62 u6 hu
 refine cq 4 [4] [I (-1)] 17 ?_
 obtain rfl:=sI h
 exact rP [I (-1)]
theorem VG {G:bZ}:bW G 110 C8:=gT 2 0 (aO aaD bv) ca Tryz.func110 (fun a r h=>ZG a.1 a.2 r h)
def Mr:(Contract×ac)→List V:=cA aV (oA str)
def Ms (r:Int):V×List V:=(I r,[])
noncomputable def Kn :=bf [false,false] Mr Ms fun x=>ID x.1 x.2
theorem ab8 {c_1:Contract}{fG:ac}{r}(h:ID c_1 fG=some r):Kn.F (Mr (c_1,fG))=some (Ms r):=aL (aH bc (aM bx)) h
noncomputable def aht :=aG Tryz.f140
noncomputable def ab7 :=b9 [(110,C8)]
def ahs (x:Contract×ac)(r:Int):St→Prop:=QF ab7 Tryz.f140 [false,false] (Mr x) (Ms r)
theorem acW (c_1:Contract)(fG:ac)(r:Int)(h:ID c_1 fG=some r):bq ab7 Tryz.f140 [false,false] 0 (Mr (c_1,fG)) (Ms r):=by
 show Run _ _ (ahs (c_1,fG) r) [.code aht] _
 refine rI 9 [(0,aa c_1),(1,str fG)] [] 1 ?_
 unfold ID at h
 refine ck 11 [6,7] [] [17] [] [.isl false (c_1.Clauses.map ao),.fn 175 [.hp 17 0 [] 1 0 0]] [some ⟨0,1,[str fG]⟩] 97 (by kernel_rfl) ?_
 obtain⟨r3,hr3,h⟩:=bS h
 refine oq 113 (I r3) rfl (bM rfl rfl (b7 rfl rfl rfl (aR (bo rfl) (aR (mt (dZ (gV (path:=[]) rfl rfl aQ rfl rfl) ib)) cS)) (afU hr3) (.inl rfl) dH rfl rfl rfl)) ?_
 refine cq 2 [4] [I r3] 129 ?_
 obtain rfl:=sI h
 exact rP [I r3]
theorem aaC {G:bZ}:bW G 140 Kn:=gT 2 0 (aO VG bv) ca Tryz.func140 (fun a r h=>acW a.1 a.2 r h)
def MI:Int→List V:=oA I
def MJ (r:Bool):V×List V:=(B r,[])
noncomputable def vo :=bf [false] MI MJ fun x=>pD x
theorem wm {ix:Int}{r}(h:pD ix=some r):vo.F (MI ix)=some (MJ r):=aL (aM bd) h
noncomputable def ahG :=aG Tryz.f78
noncomputable def ach :=b9 [(99,jb)]
def ahF (x:Int)(r:Bool):St→Prop:=QF ach Tryz.f78 [false] (MI x) (MJ r)
theorem ac7 (ix:Int)(r:Bool)(h:pD ix=some r):bq ach Tryz.f78 [false] 0 (MI ix) (MJ r):=by
 show Run _ _ (ahF ix r) [.code ahG] _
 refine rI 5 [(0,I ix)] [] 1 ?_
 unfold pD at h
 refine cq 7 [3] [I ix] 33 ?_
 obtain⟨r2,hr2,h⟩:=bS h
 refine oq 49 (B r2) rfl (cP (ja hr2)) ?_
 refine cq 2 [2] [B r2] 65 ?_
 obtain rfl:=sI h
 exact rP [B r2]
theorem D8 {G:bZ}:bW G 78 vo:=gT 1 0 (aO jv bv) ca Tryz.func78 (fun a r h=>ac7 a r h)
def IE:(Condition×Int)→List V:=cA bD (oA I)
def IG (r:Int):V×List V:=(I r,[])
noncomputable def D5 (bu:(Condition×Int)→Option Int):Ent:=bf [false,false] IE IG bu
theorem Xm (bu:(Condition×Int)→Option Int){x}{r}(h:bu x=some r):(D5 bu).F (IE x)=some (IG r):=aL (aH dt (aM bd)) h
noncomputable def Kp :=D5 (aN nk)
theorem ahx {c_1:Condition}{cX:Int}{r}(h:Xl c_1 cX=some r):Kp.F (IE (c_1,cX))=some (IG r):=Xm (aN nk) h
noncomputable def wj :=aG Tryz.f176
noncomputable abbrev qH :=cR (cR (cR (cR (cR wj))))
noncomputable abbrev sw :=cR (cL (cR (cR (cR (cR wj)))))
noncomputable def nj (bu:(Condition×Int)→Option Int):Env:=b9 [(176,(D5 bu)),(81,pU),(78,vo),(99,jb)]
def fQ (bu:(Condition×Int)→Option Int)(x:Condition×Int)(r:Int):St→Prop:=QF (nj bu) Tryz.f176 [false,false] (IE x) (IG r)
theorem Su (bu:(Condition×Int)→Option Int)(c_1:Condition)(cX:Int):ct (nj bu) 0 (fQ bu (c_1,cX)) (cL (cL (cR (cL qH)))) 0 (na bu c_1 cX) (fun u=>(sT 78 [(1,I u)] [] 1)) fun x5=>(sT 78 [(1,I x5.1),(65,.isl false (c_1.Parts.map aB)),(66,I (len c_1.Parts)),(67,I x5.2)] [] 1):=ez (IH bu c_1 cX) fun {Q K} hK self ih x5 y h hr hn=>by
 unfold mg at h
 refine cq 5 [68] [B (decide (x5.2<(len c_1.Parts)))] 17 ?_
 refine sq h ?_ ?_<;>intro h
 ·refine aq 1 ?_
  refine aq 4 ?_
  obtain⟨e6,he6,h⟩:=bS h
  refine oq 33 (.iptr (ai e6) 0) rfl (al rfl rfl rfl (aW rfl rfl (bU e6) rfl he6)) ?_
  refine ck 2 [7,70] [] [49] [] [.hp 49 0 [] 4 0 0,ai e6] [some ⟨0,4,[.agg [I (0),str ([]),I (0),.isl true []]]⟩] 65 (by kernel_rfl) ?_
  refine fK 49 [.agg [I (0),str ([]),I (0),.usl 4 (([]).map aF)]] rfl rfl (aJ (gC (aJ (.refl _) (aJ (.refl _) (aJ (.refl _) (aJ (.nil _) eF))))) eF) ?_
  refine ck 6 [71,72] [] [49] [] [ai e6,I x5.1] [some ⟨2,4,[ai e6]⟩] 113 (by kernel_rfl) ?_
  obtain⟨r7,hr7,h⟩:=bS h
  refine oq 129 (I r7) rfl (bM rfl rfl (b7 rfl rfl rfl (aR (bo rfl) (aR (bo rfl) cS)) (Xm bu hr7) (.inr rfl) dH rfl rfl rfl)) ?_
  refine cq 7 [1,75] [I r7,B (decide (r7<0))] 177 ?_
  refine sq h ?_ ?_<;>intro h
  ·refine cq 4 [4] [I (-1)] 193 ?_
   exact ci rfl (hr _ (ak h) _ (qp [I (-1)]))
  ·refine aq 1 ?_
   refine cq 5 [67] [I (aj (x5.2+1))] 209 ?_
   refine dC ?_
   exact rf [1,65,66,67] [] (ih _ _ h hr hn :)
 ·refine aq 1 ?_
  exact rf [1] [] (hn _ (ak h) :) (hk:=hK)
theorem acZ (bu:(Condition×Int)→Option Int)(c_1:Condition)(cX:Int)(r:Int)(h:zL bu c_1 cX=some r):bq (nj bu) Tryz.f176 [false,false] 0 (IE (c_1,cX)) (IG r):=by
 show Run _ _ (fQ bu (c_1,cX) r) [.code wj] _
 refine rI 78 [(0,ai c_1),(1,I cX)] [] 1 ?_
 unfold zL at h
 refine ck 13 [1,2] [] [1] [] [I (aj (cX+1)),.hp 1 0 [] 4 0 0] [some ⟨0,4,[ai c_1]⟩] 81 (by kernel_rfl) ?_
 refine oq 97 (.hs 81 0 [] 1 0 7) rfl (eB rfl (ka (f:=I) (xs:=[]) (z:=I (0)) (es:=[I (-1),I (0),I (0),I (0),I (1),I (2),I (2)]) (ws:=[I (-1),I (0),I (0),I (0),I (1),I (2),I (2)]) rfl rfl rfl (by decide) rfl (dR rfl) rfl)) ?_
 refine cq 4 [5] [.hs 81 0 [] 1 0 7] 113 ?_
 refine dV [0,1,3,7,15,31,63,127,255,511,1023,2047,511,511,8703,29183,61951,131071,262143] rfl (by decide +kernel) ?_
 refine dk 3 [13,12,11] [B (decide ((aj (cX+1))>15)),B (decide ((aj (cX+1))>15)),I (aj (cX+1))] ?_
 obtain⟨y3,hy3,hy31,hy32⟩:=bJ h
 have j3:∀u3,y3=.inr u3→Run (nj bu) 0 (fQ bu (c_1,cX) r) (.code (cR (cL (cR (cR (cR wj)))))::.code (cR (cR (cR (cR wj))))::[]) (sT 78 [(1,I (aj (cX+1))),(2,.hp 1 0 [] 4 0 0),(29,B u3)] [⟨0,4,[ai c_1]⟩] 2):=by
  intro u3 hu
  replace h:=hy32 u3 hu
  refine sq h ?_ ?_<;>intro h
  ·refine cq 4 [4] [I (-1)] 18 ?_
   obtain rfl:=sI h
   exact rP [I (-1)]
  ·refine aq 1 ?_
   refine cq 11 [37] [B (!((c_1.Op==2)==(!(c_1.Name==([]:ac)))))] 130 ?_
   obtain⟨y4,hy4,hy41,hy42⟩:=bJ h
   have j4:∀u4,y4=.inr u4→Run (nj bu) 0 (fQ bu (c_1,cX) r) (.code sw::.code qH::[]) (sT 78 [(1,I (aj (cX+1))),(2,.hp 1 0 [] 4 0 0),(63,B u4)] [⟨0,4,[ai c_1]⟩] 2):=by
    intro u4 hu
    replace h:=hy42 u4 hu
    refine sq h ?_ ?_<;>intro h
    ·refine cq 4 [4] [I (-1)] 18 ?_
     obtain rfl:=sI h
     exact rP [I (-1)]
    ·refine aq 1 ?_
     refine cq 5 [65] [.isl false (c_1.Parts.map aB)] 34 ?_
     refine oq 50 (I (len c_1.Parts)) rfl (bA rfl rfl rfl (bR rfl)) ?_
     refine cq 3 [67] [I (0)] 66 ?_
     obtain⟨y8,hy8,hy81,hy82⟩:=bJ h
     refine bV rfl ?_
     refine rf [1,65,66,67] [] (Su bu c_1 cX rfl ((aj (cX+1)),0) _ hy8 (fun r' e st hq=>by rw[hy81 r' e] at hq;exact hq) fun u8 hu=>?_)
     replace h:=hy82 u8 hu
     refine cq 5 [4] [I u8] 33 ?_
     obtain rfl:=sI h
     exact rP [I u8]
   have r4:∀r',y4=.inl r'→∀st,fQ bu (c_1,cX) r' st→(fQ bu (c_1,cX) r) st:=fun r' e st hq=>by rw[hy41 r' e] at hq;exact hq
   replace h:=hy4
   refine sp 37 h rfl ?_ ?_<;>intro h
   ·refine cq 27 [63] [B true] 546 ?_
    exact rf [1,2,63] [1] (j4 _ (ak h) :)
   ·refine cq 4 [41] [B (c_1.Op==2)] 194 ?_
    obtain⟨y9,hy9,hy91,hy92⟩:=bL h
    have j9:∀u9,y9=.inr u9→Run (nj bu) 0 (fQ bu (c_1,cX) r) (.code sw::.code qH::[]) (sT 78 [(1,I (aj (cX+1))),(2,.hp 1 0 [] 4 0 0),(63,B u9)] [⟨0,4,[ai c_1]⟩] 2):=by
     intro u9 hu
     replace h:=hy92 u9 hu
     exact rf [1,2,63] [1] (j4 _ (ak h) :)
    have r9:∀r',y9=.inl r'→∀st,fQ bu (c_1,cX) r' st→(fQ bu (c_1,cX) r) st:=fun r' e st hq=>r4 r' (hy91 r' e) st hq
    replace h:=hy9
    refine sp 41 h rfl ?_ ?_<;>intro h
    ·refine cq 2 [43] [str c_1.Name] 226 ?_
     obtain⟨r10,hr10,h⟩:=bS h
     refine oy 242 (B r10) rfl (cP (zI hr10)) ?_
     refine cq 4 [48] [B (!r10)] 306 ?_
     obtain⟨y11,hy11,hy111,hy112⟩:=bL h
     have j11:∀u11,y11=.inr u11→Run (nj bu) 0 (fQ bu (c_1,cX) r) (.code sw::.code qH::[]) (sT 78 [(1,I (aj (cX+1))),(2,.hp 1 0 [] 4 0 0),(63,B u11)] [⟨0,4,[ai c_1]⟩] 2):=by
      intro u11 hu
      replace h:=hy112 u11 hu
      exact rf [1,2,63] [1] (j9 _ (ak h) :)
     have r11:∀r',y11=.inl r'→∀st,fQ bu (c_1,cX) r' st→(fQ bu (c_1,cX) r) st:=fun r' e st hq=>r9 r' (hy111 r' e) st hq
     replace h:=hy11
     refine sp 48 h rfl ?_ ?_<;>intro h
     ·refine cq 16 [63] [B true] 546 ?_
      exact rf [1,2,63] [1] (j11 _ (ak h) :)
     ·refine cq 4 [52] [B (c_1.Op != 3)] 370 ?_
      obtain⟨y12,hy12,hy121,hy122⟩:=bL h
      have j12:∀u12,y12=.inr u12→Run (nj bu) 0 (fQ bu (c_1,cX) r) (.code sw::.code qH::[]) (sT 78 [(1,I (aj (cX+1))),(2,.hp 1 0 [] 4 0 0),(63,B u12)] [⟨0,4,[ai c_1]⟩] 2):=by
       intro u12 hu
       replace h:=hy122 u12 hu
       exact rf [1,2,63] [1] (j11 _ (ak h) :)
      have r12:∀r',y12=.inl r'→∀st,fQ bu (c_1,cX) r' st→(fQ bu (c_1,cX) r) st:=fun r' e st hq=>r11 r' (hy121 r' e) st hq
      replace h:=hy12
      refine sp 52 h rfl ?_ ?_<;>intro h
      ·refine cq 6 [58] [B (c_1.Day != 0)] 466 ?_
       obtain⟨y13,hy13,hy131,hy132⟩:=bL h
       have j13:∀u13,y13=.inr u13→Run (nj bu) 0 (fQ bu (c_1,cX) r) (.code sw::.code qH::[]) (sT 78 [(1,I (aj (cX+1))),(2,.hp 1 0 [] 4 0 0),(63,B u13)] [⟨0,4,[ai c_1]⟩] 2):=by
        intro u13 hu
        replace h:=hy132 u13 hu
        exact rf [1,2,63] [1] (j12 _ (ak h) :)
       have r13:∀r',y13=.inl r'→∀st,fQ bu (c_1,cX) r' st→(fQ bu (c_1,cX) r) st:=fun r' e st hq=>r12 r' (hy131 r' e) st hq
       replace h:=hy13
       refine sp 58 h rfl ?_ ?_<;>intro h
       ·refine cq 6 [63] [B true] 546 ?_
        exact rf [1,2,63] [1] (j13 _ (ak h) :)
       ·refine cq 2 [60] [I c_1.Day] 498 ?_
        obtain⟨r14,hr14,h⟩:=bS h
        refine oy 514 (B r14) rfl (cP (wm hr14)) ?_
        refine cq 3 [63] [B (!r14)] 546 ?_
        exact rf [1,2,63] [1] (j13 _ (ak h) :)
      ·refine cq 8 [58,60] [B false,I c_1.Day] 498 ?_
       obtain⟨r15,hr15,h⟩:=bS h
       refine oy 514 (B r15) rfl (cP (wm hr15)) ?_
       refine cq 3 [63] [B (!r15)] 546 ?_
       exact rf [1,2,63] [1] (j12 _ (ak h) :)
    ·refine cq 11 [48,52] [B false,B (c_1.Op != 3)] 370 ?_
     obtain⟨y16,hy16,hy161,hy162⟩:=bL h
     have j16:∀u16,y16=.inr u16→Run (nj bu) 0 (fQ bu (c_1,cX) r) (.code sw::.code qH::[]) (sT 78 [(1,I (aj (cX+1))),(2,.hp 1 0 [] 4 0 0),(63,B u16)] [⟨0,4,[ai c_1]⟩] 2):=by
      intro u16 hu
      replace h:=hy162 u16 hu
      exact rf [1,2,63] [1] (j9 _ (ak h) :)
     have r16:∀r',y16=.inl r'→∀st,fQ bu (c_1,cX) r' st→(fQ bu (c_1,cX) r) st:=fun r' e st hq=>r9 r' (hy161 r' e) st hq
     replace h:=hy16
     refine sp 52 h rfl ?_ ?_<;>intro h
     ·refine cq 6 [58] [B (c_1.Day != 0)] 466 ?_
      obtain⟨y17,hy17,hy171,hy172⟩:=bL h
      have j17:∀u17,y17=.inr u17→Run (nj bu) 0 (fQ bu (c_1,cX) r) (.code sw::.code qH::[]) (sT 78 [(1,I (aj (cX+1))),(2,.hp 1 0 [] 4 0 0),(63,B u17)] [⟨0,4,[ai c_1]⟩] 2):=by
       intro u17 hu
       replace h:=hy172 u17 hu
       exact rf [1,2,63] [1] (j16 _ (ak h) :)
      have r17:∀r',y17=.inl r'→∀st,fQ bu (c_1,cX) r' st→(fQ bu (c_1,cX) r) st:=fun r' e st hq=>r16 r' (hy171 r' e) st hq
      replace h:=hy17
      refine sp 58 h rfl ?_ ?_<;>intro h
      ·refine cq 6 [63] [B true] 546 ?_
       exact rf [1,2,63] [1] (j17 _ (ak h) :)
      ·refine cq 2 [60] [I c_1.Day] 498 ?_
       obtain⟨r18,hr18,h⟩:=bS h
       refine oy 514 (B r18) rfl (cP (wm hr18)) ?_
       refine cq 3 [63] [B (!r18)] 546 ?_
       exact rf [1,2,63] [1] (j17 _ (ak h) :)
     ·refine cq 8 [58,60] [B false,I c_1.Day] 498 ?_
      obtain⟨r19,hr19,h⟩:=bS h
      refine oy 514 (B r19) rfl (cP (wm hr19)) ?_
      refine cq 3 [63] [B (!r19)] 546 ?_
      exact rf [1,2,63] [1] (j16 _ (ak h) :)
 have r3:∀r',y3=.inl r'→∀st,fQ bu (c_1,cX) r' st→(fQ bu (c_1,cX) r) st:=fun r' e st hq=>by rw[hy31 r' e] at hq;exact hq
 replace h:=hy3
 refine sp 13 h rfl ?_ ?_<;>intro h
 ·refine dk 16 [29,28,27,26,25,24,23,22,21,20,19,18,17,16,15,14] [B true,.und,.und,.und,.und,.und,.und,.und,.und,.und,B true,B true,.und,.und,.und,.und] ?_
  refine de 417 rfl rfl ?_
  exact rf [1,2,29] [1] (j3 _ (ak h) :)
 ·refine dy [1] [] (.hp 1 0 [] 4 0 0) rfl (an rfl rfl rfl) ?_
  refine dy [1] [] (I c_1.Op) rfl (aU rfl rfl) ?_
  obtain⟨r20,hr20,h⟩:=bS h
  refine dy [] [] (B r20) rfl (cP (ja hr20)) ?_ (dK rfl rfl rfl rfl (aR (bo rfl) (aR (bo rfl) (aR (bo rfl) cS))) (ja hr20) (.inr rfl) rfl)
  refine dk 3 [19,18,17] [B (!r20),B (!r20),B (!r20)] ?_
  obtain⟨y21,hy21,hy211,hy212⟩:=bL h
  have j21:∀u21,y21=.inr u21→Run (nj bu) 0 (fQ bu (c_1,cX) r) (.code (cR (cL (cR (cR (cR wj)))))::.code (cR (cR (cR (cR wj))))::[]) (sT 78 [(1,I (aj (cX+1))),(2,.hp 1 0 [] 4 0 0),(29,B u21)] [⟨0,4,[ai c_1]⟩] 2):=by
   intro u21 hu
   replace h:=hy212 u21 hu
   exact rf [1,2,29] [1] (j3 _ (ak h) :)
  have r21:∀r',y21=.inl r'→∀st,fQ bu (c_1,cX) r' st→(fQ bu (c_1,cX) r) st:=fun r' e st hq=>r3 r' (hy211 r' e) st hq
  replace h:=hy21
  refine sp 19 h rfl ?_ ?_<;>intro h
  ·refine dk 10 [29,28,27,26,25,24,23,22,21,20] [B true,.und,.und,.und,.und,.und,.und,.und,.und,.und] ?_
   refine de 417 rfl rfl ?_
   exact rf [1,2,29] [1] (j21 _ (ak h) :)
  ·refine dy [1] [] (.hp 1 0 [] 4 0 3) rfl (an rfl rfl rfl) ?_
   refine dy [1] [] (.isl false (c_1.Parts.map aB)) rfl (aU rfl rfl) ?_
   refine dy [] [] (I (len c_1.Parts)) rfl (bA rfl rfl rfl (bR rfl)) ?_
   refine dk 1 [23] [.hs 81 0 [] 1 0 7] ?_
   refine dy [1] [] (.hp 1 0 [] 4 0 0) rfl (an rfl rfl rfl) ?_
   refine dy [1] [] (I c_1.Op) rfl (aU rfl rfl) ?_
   obtain⟨e22,he22,h⟩:=bS h
   refine dy [81] [] (.hp 81 0 [] 1 (0+Int.toNat c_1.Op) 0) rfl (al rfl rfl rfl (d7 (f:=I) (xs:=[(-1),0,0,0,1,2,2]) rfl rfl rfl he22)) ?_
   refine dy [81] [] (I e22) rfl (aU rfl (gq (path:=[]) rfl rfl rfl aQ (dD (f:=I) (xs:=[(-1),0,0,0,1,2,2]) he22) rfl rfl rfl)) ?_
   refine dk 2 [29,28] [B ((len c_1.Parts) != e22),B ((len c_1.Parts) != e22)] ?_
   refine de 417 rfl rfl ?_
   exact rf [1,2,29] [1] (j21 _ (ak h) :)
theorem aaE {G:bZ}:bW G 176 Kp:=jg fun bu g_Ffm=>gT 2 0 (aO g_Ffm (aO su (aO D8 (aO jv bv)))) ca Tryz.func176 (fun a r h=>acZ bu a.1 a.2 r h)
def Mc:Condition→List V:=oA bD
def Md (r:Bool):V×List V:=(B r,[])
noncomputable def Ka :=bf [false] Mc Md fun x=>NP x
theorem ahm {c_1:Condition}{r}(h:NP c_1=some r):Ka.F (Mc c_1)=some (Md r):=aL (aM dt) h
noncomputable def aho :=aG Tryz.f141
noncomputable def ab4 :=b9 [(176,Kp)]
def ahn (x:Condition)(r:Bool):St→Prop:=QF ab4 Tryz.f141 [false] (Mc x) (Md r)
theorem acK (c_1:Condition)(r:Bool)(h:NP c_1=some r):bq ab4 Tryz.f141 [false] 0 (Mc c_1) (Md r):=by
 show Run _ _ (ahn c_1 r) [.code aho] _
 refine rI 6 [(0,ai c_1)] [] 1 ?_
 unfold NP at h
 refine cq 8 [3] [ai c_1] 49 ?_
 obtain⟨r2,hr2,h⟩:=bS h
 refine oq 65 (I r2) rfl (cP (ahx hr2)) ?_
 refine cq 3 [2] [B (decide (r2>0))] 97 ?_
 obtain rfl:=sI h
 exact rP [B (decide (r2>0))]
theorem Z2 {G:bZ}:bW G 141 Ka:=gT 1 0 (aO aaE bv) ca Tryz.func141 (fun a r h=>acK a r h)
def MG:(Contract×Int)→List V:=cA aV (oA I)
def MH (r:Bool):V×List V:=(B r,[])
noncomputable def Kt :=bf [false,false] MG MH fun x=>Oe x.1 x.2
theorem ahE {c_1:Contract}{i_2:Int}{r}(h:Oe c_1 i_2=some r):Kt.F (MG (c_1,i_2))=some (MH r):=aL (aH bc (aM bd)) h
noncomputable def mH :=aG Tryz.f100
noncomputable abbrev Og :=cR (cL (cR (cR (cR (cR mH)))))
noncomputable abbrev yD :=cR (cR (cR (cR (cR (cR mH)))))
noncomputable abbrev IP :=cR (cL (cR (cR (cR (cR (cR mH))))))
noncomputable abbrev Oh :=cR (cR (cR yD))
noncomputable def kM :=b9 [(81,pU),(99,jb),(140,Kn),(141,Ka)]
def fe (x:Contract×Int)(r:Bool):St→Prop:=QF kM Tryz.f100 [false,false] (MG x) (MH r)
theorem ac6 (c_1:Contract)(i_2:Int)(r:Bool)(h:Oe c_1 i_2=some r):bq kM Tryz.f100 [false,false] 0 (MG (c_1,i_2)) (MH r):=by
 show Run _ _ (fe (c_1,i_2) r) [.code mH] _
 refine rI 119 [(0,aa c_1),(1,I i_2)] [] 1 ?_
 unfold Oe at h
 refine ck 10 [2,9,10] [] [1] [] [.hp 1 0 [] 2 0 0,.isl false (c_1.Clauses.map ao),I i_2] [some ⟨0,2,[aa c_1]⟩] 81 (by kernel_rfl) ?_
 obtain⟨e3,he3,h⟩:=bS h
 refine oq 97 (.iptr (ap e3) 0) rfl (al rfl rfl rfl (aW rfl rfl rfl rfl he3)) ?_
 refine ck 2 [5,12] [] [113] [] [.hp 113 0 [] 12 0 0,ap e3] [some ⟨0,12,[.agg [str ([]),I (0),I (0),str ([]),I (0),I (0),I (0),str ([]),I (0),.isl true [],I (0),str ([])]]⟩] 129 (by kernel_rfl) ?_
 refine fK 113 [.agg [str ([]),I (0),I (0),str ([]),I (0),I (0),I (0),str ([]),I (0),.usl 4 (([]).map aF),I (0),str ([])]] rfl rfl (aJ (gC (aJ (.refl _) (aJ (.refl _) (aJ (.refl _) (aJ (.refl _) (aJ (.refl _) (aJ (.refl _) (aJ (.refl _) (aJ (.refl _) (aJ (.refl _) (aJ (.nil _) (aJ (.refl _) (aJ (.refl _) eF))))))))))))) eF) ?_
 refine ck 6 [14] [] [113] [] [.isl false (c_1.Parties.map str)] [some ⟨2,12,[ap e3]⟩] 177 (by kernel_rfl) ?_
 refine oq 193 (I (len c_1.Parties)) rfl (bA rfl rfl rfl (bR rfl)) ?_
 refine cq 8 [6,18] [I (aj ((len c_1.Parties) - 1)),str e3.Id] 257 ?_
 obtain⟨r4,hr4,h⟩:=bS h
 refine oq 273 (B r4) rfl (cP (zI hr4)) ?_
 refine cq 2 [21] [B (!r4)] 305 ?_
 obtain⟨y5,hy5,hy51,hy52⟩:=bJ h
 have j5:∀u5,y5=.inr u5→Run kM 0 (fe (c_1,i_2) r) (.code (cR (cL (cR (cR (cR mH)))))::.code (cR (cR (cR (cR mH))))::[]) (sT 119 [(1,I i_2),(2,.hp 1 0 [] 2 0 0),(5,.hp 2 0 [] 12 0 0),(6,I (aj ((len c_1.Parties) - 1))),(40,B u5)] [⟨0,2,[aa c_1]⟩,⟨0,12,[ap e3]⟩] 3):=by
  intro u5 hu
  replace h:=hy52 u5 hu
  refine sq h ?_ ?_<;>intro h
  ·refine cq 4 [4] [B false] 19 ?_
   obtain rfl:=sI h
   exact rP [B false]
  ·refine aq 1 ?_
   refine cq 6 [42,43] [I e3.Party,I (aj ((len c_1.Parties) - 1))] 51 ?_
   obtain⟨r6,hr6,h⟩:=bS h
   refine oq 67 (B r6) rfl (cP (ja hr6)) ?_
   refine cq 2 [46] [B (!r6)] 99 ?_
   obtain⟨y7,hy7,hy71,hy72⟩:=bJ h
   have j7:∀u7,y7=.inr u7→Run kM 0 (fe (c_1,i_2) r) (.code Og::.code (cR (cR (cR (cR (cR mH)))))::[]) (sT 119 [(1,I i_2),(2,.hp 1 0 [] 2 0 0),(5,.hp 2 0 [] 12 0 0),(65,B u7)] [⟨0,2,[aa c_1]⟩,⟨0,12,[ap e3]⟩] 3):=by
    intro u7 hu
    replace h:=hy72 u7 hu
    refine sq h ?_ ?_<;>intro h
    ·refine cq 4 [4] [B false] 19 ?_
     obtain rfl:=sI h
     exact rP [B false]
    ·refine aq 1 ?_
     refine cq 5 [67] [I e3.Amount] 35 ?_
     obtain⟨r8,hr8,h⟩:=bS h
     refine oq 51 (B r8) rfl (cP (ja hr8)) ?_
     refine cq 2 [70] [B (!r8)] 83 ?_
     obtain⟨y9,hy9,hy91,hy92⟩:=bJ h
     have j9:∀u9,y9=.inr u9→Run kM 0 (fe (c_1,i_2) r) (.code IP::.code yD::[]) (sT 119 [(1,I i_2),(2,.hp 1 0 [] 2 0 0),(5,.hp 2 0 [] 12 0 0),(90,B u9)] [⟨0,2,[aa c_1]⟩,⟨0,12,[ap e3]⟩] 3):=by
      intro u9 hu
      replace h:=hy92 u9 hu
      refine sq h ?_ ?_<;>intro h
      ·refine cq 4 [4] [B false] 19 ?_
       obtain rfl:=sI h
       exact rP [B false]
      ·refine aq 1 ?_
       refine cq 7 [93] [B (e3.Repair==([]:ac))] 51 ?_
       refine sq h ?_ ?_<;>intro h
       ·refine cq 4 [4] [B true] 67 ?_
        obtain rfl:=sI h
        exact rP [B true]
       ·refine aq 1 ?_
        refine cq 5 [94,96] [aa c_1,str e3.Repair] 99 ?_
        obtain⟨r10,hr10,h⟩:=bS h
        refine oq 115 (I r10) rfl (cP (ab8 hr10)) ?_
        refine cq 8 [7,101] [I r10,B (e3.Kind != 3)] 195 ?_
        obtain⟨y11,hy11,hy111,hy112⟩:=bJ h
        have j11:∀u11,y11=.inr u11→Run kM 0 (fe (c_1,i_2) r) (.code Oh::[]) (sT 119 [(4,B u11)] [] 1):=by
         intro u11 hu
         replace h:=hy112 u11 hu
         obtain rfl:=sI h
         exact rP [B u11]
        have r11:∀r',y11=.inl r'→∀st,fe (c_1,i_2) r' st→(fe (c_1,i_2) r) st:=fun r' e st hq=>by rw[hy111 r' e] at hq;exact hq
        replace h:=hy11
        refine sp 101 h rfl ?_ ?_<;>intro h
        ·refine cq 4 [105] [B (decide (r10≥0))] 259 ?_
         obtain⟨y12,hy12,hy121,hy122⟩:=bL h
         have j12:∀u12,y12=.inr u12→Run kM 0 (fe (c_1,i_2) r) (.code Oh::[]) (sT 119 [(4,B u12)] [] 1):=by
          intro u12 hu
          replace h:=hy122 u12 hu
          exact rf [4] [] (j11 _ (ak h) :)
         have r12:∀r',y12=.inl r'→∀st,fe (c_1,i_2) r' st→(fe (c_1,i_2) r) st:=fun r' e st hq=>r11 r' (hy121 r' e) st hq
         replace h:=hy12
         refine sp 105 h rfl ?_ ?_<;>intro h
         ·refine cq 5 [110] [B (r10 != i_2)] 339 ?_
          obtain⟨y13,hy13,hy131,hy132⟩:=bL h
          have j13:∀u13,y13=.inr u13→Run kM 0 (fe (c_1,i_2) r) (.code Oh::[]) (sT 119 [(4,B u13)] [] 1):=by
           intro u13 hu
           replace h:=hy132 u13 hu
           exact rf [4] [] (j12 _ (ak h) :)
          have r13:∀r',y13=.inl r'→∀st,fe (c_1,i_2) r' st→(fe (c_1,i_2) r) st:=fun r' e st hq=>r12 r' (hy131 r' e) st hq
          replace h:=hy13
          refine sp 110 h rfl ?_ ?_<;>intro h
          ·refine cq 3 [112,113] [.isl false (c_1.Clauses.map ao),I r10] 387 ?_
           obtain⟨e14,he14,h⟩:=bS h
           refine oy 403 (.iptr (ap e14) 0) rfl (al rfl rfl rfl (aW rfl rfl rfl rfl he14)) ?_
           refine cq 6 [4] [B (e14.Kind==1)] 483 ?_
           exact rf [4] [] (j13 _ (ak h) :)
          ·refine cq 10 [4] [B false] 483 ?_
           exact rf [4] [] (j13 _ (ak h) :)
         ·refine cq 15 [4] [B false] 483 ?_
          exact rf [4] [] (j12 _ (ak h) :)
        ·refine cq 19 [4] [B false] 483 ?_
         exact rf [4] [] (j11 _ (ak h) :)
     have r9:∀r',y9=.inl r'→∀st,fe (c_1,i_2) r' st→(fe (c_1,i_2) r) st:=fun r' e st hq=>by rw[hy91 r' e] at hq;exact hq
     replace h:=hy9
     refine sp 70 h rfl ?_ ?_<;>intro h
     ·refine cq 21 [90] [B true] 403 ?_
      exact rf [1,2,5,90] [1,2] (j9 _ (ak h) :)
     ·refine cq 2 [72] [I e3.Within] 115 ?_
      obtain⟨r15,hr15,h⟩:=bS h
      refine oy 131 (B r15) rfl (cP (ja hr15)) ?_
      refine cq 3 [76] [B (!r15)] 179 ?_
      obtain⟨u16,hu16,h⟩:=lJ h
      have j16:Run kM 0 (fe (c_1,i_2) r) (.code IP::.code yD::[]) (sT 119 [(1,I i_2),(2,.hp 1 0 [] 2 0 0),(5,.hp 2 0 [] 12 0 0),(90,B u16)] [⟨0,2,[aa c_1]⟩,⟨0,12,[ap e3]⟩] 3):=by
       exact rf [1,2,5,90] [1,2] (j9 _ (ak h) :)
      replace h:=hu16
      clear hu16
      refine sp 76 h rfl ?_ ?_<;>intro h
      ·refine cq 15 [90] [B true] 403 ?_
       subst h
       exact rf [1,2,5,90] [1,2] (j16 :)
      ·refine cq 4 [80] [B (e3.Kind != 1)] 243 ?_
       obtain⟨u17,hu17,h⟩:=lJ h
       have j17:Run kM 0 (fe (c_1,i_2) r) (.code IP::.code yD::[]) (sT 119 [(1,I i_2),(2,.hp 1 0 [] 2 0 0),(5,.hp 2 0 [] 12 0 0),(90,B u17)] [⟨0,2,[aa c_1]⟩,⟨0,12,[ap e3]⟩] 3):=by
        subst h
        exact rf [1,2,5,90] [1,2] (j16 :)
       replace h:=hu17
       clear hu17
       refine sp 80 h rfl ?_ ?_<;>intro h
       ·refine cq 4 [84] [B (e3.Amount != 0)] 307 ?_
        obtain⟨u18,hu18,h⟩:=lJ h
        have j18:Run kM 0 (fe (c_1,i_2) r) (.code IP::.code yD::[]) (sT 119 [(1,I i_2),(2,.hp 1 0 [] 2 0 0),(5,.hp 2 0 [] 12 0 0),(90,B u18)] [⟨0,2,[aa c_1]⟩,⟨0,12,[ap e3]⟩] 3):=by
         subst h
         exact rf [1,2,5,90] [1,2] (j17 :)
        replace h:=hu18
        clear hu18
        refine sp 84 h rfl ?_ ?_<;>intro h
        ·refine cq 7 [90] [B true] 403 ?_
         subst h
         exact rf [1,2,5,90] [1,2] (j18 :)
        ·refine cq 7 [90] [B (e3.Within != 0)] 403 ?_
         subst h
         exact rf [1,2,5,90] [1,2] (j18 :)
       ·refine cq 11 [90] [B false] 403 ?_
        subst h
        exact rf [1,2,5,90] [1,2] (j17 :)
   have r7:∀r',y7=.inl r'→∀st,fe (c_1,i_2) r' st→(fe (c_1,i_2) r) st:=fun r' e st hq=>by rw[hy71 r' e] at hq;exact hq
   replace h:=hy7
   refine sp 46 h rfl ?_ ?_<;>intro h
   ·refine cq 20 [65] [B true] 403 ?_
    exact rf [1,2,5,65] [1,2] (j7 _ (ak h) :)
   ·refine cq 3 [48,49] [I e3.Other,I (aj ((len c_1.Parties) - 1))] 147 ?_
    obtain⟨r19,hr19,h⟩:=bS h
    refine oy 163 (B r19) rfl (cP (ja hr19)) ?_
    refine cq 3 [53] [B (!r19)] 211 ?_
    obtain⟨y20,hy20,hy201,hy202⟩:=bL h
    have j20:∀u20,y20=.inr u20→Run kM 0 (fe (c_1,i_2) r) (.code Og::.code (cR (cR (cR (cR (cR mH)))))::[]) (sT 119 [(1,I i_2),(2,.hp 1 0 [] 2 0 0),(5,.hp 2 0 [] 12 0 0),(65,B u20)] [⟨0,2,[aa c_1]⟩,⟨0,12,[ap e3]⟩] 3):=by
     intro u20 hu
     replace h:=hy202 u20 hu
     exact rf [1,2,5,65] [1,2] (j7 _ (ak h) :)
    have r20:∀r',y20=.inl r'→∀st,fe (c_1,i_2) r' st→(fe (c_1,i_2) r) st:=fun r' e st hq=>r7 r' (hy201 r' e) st hq
    replace h:=hy20
    refine sp 53 h rfl ?_ ?_<;>intro h
    ·refine cq 13 [65] [B true] 403 ?_
     exact rf [1,2,5,65] [1,2] (j20 _ (ak h) :)
    ·refine cq 7 [60] [B (e3.Party==e3.Other)] 323 ?_
     obtain⟨y21,hy21,hy211,hy212⟩:=bL h
     have j21:∀u21,y21=.inr u21→Run kM 0 (fe (c_1,i_2) r) (.code Og::.code (cR (cR (cR (cR (cR mH)))))::[]) (sT 119 [(1,I i_2),(2,.hp 1 0 [] 2 0 0),(5,.hp 2 0 [] 12 0 0),(65,B u21)] [⟨0,2,[aa c_1]⟩,⟨0,12,[ap e3]⟩] 3):=by
      intro u21 hu
      replace h:=hy212 u21 hu
      exact rf [1,2,5,65] [1,2] (j20 _ (ak h) :)
     have r21:∀r',y21=.inl r'→∀st,fe (c_1,i_2) r' st→(fe (c_1,i_2) r) st:=fun r' e st hq=>r20 r' (hy211 r' e) st hq
     replace h:=hy21
     refine sp 60 h rfl ?_ ?_<;>intro h
     ·refine cq 6 [65] [B true] 403 ?_
      exact rf [1,2,5,65] [1,2] (j21 _ (ak h) :)
     ·refine cq 2 [62] [ai e3.When] 355 ?_
      obtain⟨r22,hr22,h⟩:=bS h
      refine oy 371 (B r22) rfl (cP (ahm hr22)) ?_
      refine cq 3 [65] [B (!r22)] 403 ?_
      exact rf [1,2,5,65] [1,2] (j21 _ (ak h) :)
 have r5:∀r',y5=.inl r'→∀st,fe (c_1,i_2) r' st→(fe (c_1,i_2) r) st:=fun r' e st hq=>by rw[hy51 r' e] at hq;exact hq
 replace h:=hy5
 refine sp 21 h rfl ?_ ?_<;>intro h
 ·refine cq 20 [40] [B true] 609 ?_
  exact rf [1,2,5,6,40] [1,113] (j5 _ (ak h) :)
 ·refine cq 3 [22,24] [aa c_1,str e3.Id] 353 ?_
  obtain⟨r23,hr23,h⟩:=bS h
  refine oy 369 (I r23) rfl (cP (ab8 hr23)) ?_
  refine cq 4 [29] [B (r23 != i_2)] 433 ?_
  obtain⟨y24,hy24,hy241,hy242⟩:=bL h
  have j24:∀u24,y24=.inr u24→Run kM 0 (fe (c_1,i_2) r) (.code (cR (cL (cR (cR (cR mH)))))::.code (cR (cR (cR (cR mH))))::[]) (sT 119 [(1,I i_2),(2,.hp 1 0 [] 2 0 0),(5,.hp 2 0 [] 12 0 0),(6,I (aj ((len c_1.Parties) - 1))),(40,B u24)] [⟨0,2,[aa c_1]⟩,⟨0,12,[ap e3]⟩] 3):=by
   intro u24 hu
   replace h:=hy242 u24 hu
   exact rf [1,2,5,6,40] [1,2] (j5 _ (ak h) :)
  have r24:∀r',y24=.inl r'→∀st,fe (c_1,i_2) r' st→(fe (c_1,i_2) r) st:=fun r' e st hq=>r5 r' (hy241 r' e) st hq
  replace h:=hy24
  refine sp 29 h rfl ?_ ?_<;>intro h
  ·refine cq 12 [40] [B true] 609 ?_
   exact rf [1,2,5,6,40] [1,113] (j24 _ (ak h) :)
  ·refine cq 2 [31] [str e3.Action] 465 ?_
   obtain⟨r25,hr25,h⟩:=bS h
   refine oy 481 (B r25) rfl (cP (zI hr25)) ?_
   refine cq 3 [35] [B (!r25)] 529 ?_
   obtain⟨y26,hy26,hy261,hy262⟩:=bL h
   have j26:∀u26,y26=.inr u26→Run kM 0 (fe (c_1,i_2) r) (.code (cR (cL (cR (cR (cR mH)))))::.code (cR (cR (cR (cR mH))))::[]) (sT 119 [(1,I i_2),(2,.hp 1 0 [] 2 0 0),(5,.hp 2 0 [] 12 0 0),(6,I (aj ((len c_1.Parties) - 1))),(40,B u26)] [⟨0,2,[aa c_1]⟩,⟨0,12,[ap e3]⟩] 3):=by
    intro u26 hu
    replace h:=hy262 u26 hu
    exact rf [1,2,5,6,40] [1,2] (j24 _ (ak h) :)
   have r26:∀r',y26=.inl r'→∀st,fe (c_1,i_2) r' st→(fe (c_1,i_2) r) st:=fun r' e st hq=>r24 r' (hy261 r' e) st hq
   replace h:=hy26
   refine sp 35 h rfl ?_ ?_<;>intro h
   ·refine cq 6 [40] [B true] 609 ?_
    exact rf [1,2,5,6,40] [1,113] (j26 _ (ak h) :)
   ·refine cq 2 [37] [I e3.Kind] 561 ?_
    obtain⟨r27,hr27,h⟩:=bS h
    refine oy 577 (B r27) rfl (cP (ja hr27)) ?_
    refine cq 3 [40] [B (!r27)] 609 ?_
    exact rf [1,2,5,6,40] [1,113] (j26 _ (ak h) :)
theorem aaI {G:bZ}:bW G 100 Kt:=gT 2 0 (aO su (aO jv (aO aaC (aO Z2 bv)))) ca Tryz.func100 (fun a r h=>ac6 a.1 a.2 r h)
def Ix:(Condition×(List ac))→List V:=cA bD (oA (sU 1 str))
def Iz (r:(List ac)):V×List V:=(.usl 1 (r.map str),[.dead])
noncomputable def D4 (cW:(Condition×(List ac))→Option (List ac)):Ent:=bf [false,true] Ix Iz cW
theorem Xj (cW:(Condition×(List ac))→Option (List ac)){x}{r}(h:cW x=some r):(D4 cW).F (Ix x)=some (Iz r):=aL (aH dt (aM (ju bx))) h
noncomputable def Kl :=D4 (aN o8)
theorem ab6 {c_3:Condition}{d8:List ac}{r}(h:Xi c_3 d8=some r):Kl.F (Ix (c_3,d8))=some (Iz r):=Xj (aN o8) h
noncomputable def Sp :=aG Tryz.f142
noncomputable def Mn (cW:(Condition×(List ac))→Option (List ac)):Env:=b9 [(142,(D4 cW))]
def Iy (cW:(Condition×(List ac))→Option (List ac))(x:Condition×(List ac))(r:(List ac)):St→Prop:=QF (Mn cW) Tryz.f142 [false,true] (Ix x) (Iz r)
end Go.Ln
