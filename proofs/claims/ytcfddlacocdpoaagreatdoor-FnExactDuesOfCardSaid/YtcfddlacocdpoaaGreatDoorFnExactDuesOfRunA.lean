/-
  The walks.
-/
import Derived.Test.YtcfddlacocdpoaaGreatDoorFnExactDuesOfFun
import Derived.Test.YtcfddlacocdpoaaGreatDoorChecked
set_option maxHeartbeats 4000000
set_option linter.unusedVariables false
set_option linter.unusedSimpArgs false
set_option maxRecDepth 100000
namespace Go.Ln
open Go Go.Proofs
noncomputable abbrev cf:=Checked.mixed Tryz.checked
abbrev b7:=Go.Ln.Ground
abbrev bZ (G:b7):=gq Tryz.prog G
noncomputable abbrev ce:=XT Tryz.prog
def FJ:((List ae)×Int)→List V:=cA (gj str) (oA I)
def FK (r:Int):V×List V:=(I r,[])
noncomputable def vX :=bi [false,false] FJ FK fun x=>xP x.1 x.2
theorem UX {a_1:List ae}{aw:Int}{r}(h:xP a_1 aw=some r):vX.F (FJ (a_1,aw))=some (FK r):=aJ (aN (cn bQ) (aK bc)) h
noncomputable def UZ :=aH Tryz.f41
noncomputable def M6 :=ce []
def UY (x:(List ae)×Int)(r:Int):St→Prop:=QF M6 Tryz.f41 [false,false] (FJ x) (FK r)
theorem PG (a_1:List ae)(aw:Int):cj M6 0 (UY (a_1,aw)) (cL (cL (cR (cL (cR (cR (cR UZ))))))) 0 (uF a_1 aw) (fun u=>(sT 28 [(1,I u)] [] 1)) fun x3=>(sT 28 [(0,.isl false (a_1.map str)),(1,I x3.1),(5,I x3.2)] [] 1):=ef (AF a_1 aw) fun {Q K} hK self ih x3 y h hr hn=>by
 unfold oe at h
 refine cq 5 [12,13] [I x3.2,.isl false (a_1.map str)] 33 ?_
 refine oq 49 (I (len a_1)) rfl (bw rfl rfl rfl (bN rfl)) ?_
 refine cq 2 [15] [B (decide (x3.2<(len a_1)))] 65 ?_
 refine sq h ?_ ?_<;>intro h
 ·refine aq 1 ?_
  refine cq 7 [18,19,20] [I x3.1,.isl false (a_1.map str),I x3.2] 113 ?_
  obtain⟨e4,he4,h⟩:=bS h
  refine oq 129 (.iptr (str e4) 0) rfl (al rfl rfl rfl (bo rfl rfl rfl rfl he4)) ?_
  refine cq 10 [1,26] [I (ac (x3.1 - (len e4))),B (decide ((ac (x3.1 - (len e4)))<0))] 225 ?_
  refine sq h ?_ ?_<;>intro h
  ·refine cq 4 [4] [I (-1)] 241 ?_
   exact b8 rfl (hr _ (an h) _ (qp [I (-1)]))
  ·refine aq 1 ?_
   refine cq 6 [5] [I (ac (x3.2+1))] 273 ?_
   refine cY ?_
   exact rf [0,1,5] [] (ih _ _ h hr hn :)
 ·refine aq 1 ?_
  exact rf [1] [] (hn _ (an h) :) (hk:=hK)
theorem Y9 (a_1:List ae)(aw:Int)(r:Int)(h:xP a_1 aw=some r):br M6 Tryz.f41 [false,false] 0 (FJ (a_1,aw)) (FK r):=by
 show Run _ _ (UY (a_1,aw) r) [.code UZ] _
 refine rI 28 [(0,.isl false (a_1.map str)),(1,I aw)] [] 1 ?_
 unfold xP at h
 refine cq 8 [6,7] [I aw,.isl false (a_1.map str)] 49 ?_
 refine oq 65 (I (len a_1)) rfl (bw rfl rfl rfl (bN rfl)) ?_
 refine cq 9 [1,11] [I (ac (aw - (len a_1))),B (decide ((ac (aw - (len a_1)))<0))] 129 ?_
 refine sq h ?_ ?_<;>intro h
 ·refine cq 4 [4] [I (-1)] 145 ?_
  obtain rfl:=sI h
  exact rP [I (-1)]
 ·refine aq 1 ?_
  refine cq 6 [5] [I (0)] 145 ?_
  obtain⟨y5,hy5,hy51,hy52⟩:=bJ h
  refine bO rfl ?_
  refine rf [0,1,5] [] (PG a_1 aw rfl ((ac (aw - (len a_1))),0) _ hy5 (fun r' e st hq=>by rw[hy51 r' e] at hq;exact hq) fun u5 hu=>?_)
  replace h:=hy52 u5 hu
  refine cq 5 [4] [I u5] 33 ?_
  obtain rfl:=sI h
  exact rP [I u5]
theorem KE {G:b7}:bZ G 41 vX:=gT 2 0 bv cf Tryz.func41 (fun a r h=>Y9 a.1 a.2 r h)
def xM:(Condition×Int)→List V:=cA bK (oA I)
def xN (r:Int):V×List V:=(I r,[])
noncomputable def tc (bE:(Condition×Int)→Option Int):Ent:=bi [false,false] xM xN bE
theorem QM (bE:(Condition×Int)→Option Int){x}{r}(h:bE x=some r):(tc bE).F (xM x)=some (xN r):=aJ (aN dP (aK bc)) h
def Fz:((List Condition)×Int)→List V:=cA (gj aI) (oA I)
def FA (r:Int):V×List V:=(I r,[])
noncomputable def CG (bE:(Condition×Int)→Option Int):Ent:=bi [false,false] Fz FA fun x=>xO bE x.1 x.2
theorem aew (bE:(Condition×Int)→Option Int){a_1:List Condition}{aw:Int}{r}(h:xO bE a_1 aw=some r):(CG bE).F (Fz (a_1,aw))=some (FA r):=aJ (aN (cn fW) (aK bc)) h
noncomputable def UM :=aH Tryz.f168
noncomputable def M5 (bE:(Condition×Int)→Option Int):Env:=ce [(134,(tc bE))]
def UL (bE:(Condition×Int)→Option Int)(x:(List Condition)×Int)(r:Int):St→Prop:=QF (M5 bE) Tryz.f168 [false,false] (Fz x) (FA r)
theorem PF (bE:(Condition×Int)→Option Int)(a_1:List Condition)(aw:Int):cj (M5 bE) 0 (UL bE (a_1,aw)) (cL (cL (cR (cL (cR (cR (cR UM))))))) 0 (rM bE a_1 aw) (fun u=>(sT 27 [(1,I u)] [] 1)) fun x3=>(sT 27 [(0,.isl false (a_1.map aI)),(1,I x3.1),(5,I x3.2)] [] 1):=ef (AE bE a_1 aw) fun {Q K} hK self ih x3 y h hr hn=>by
 unfold lW at h
 refine cq 5 [12,13] [I x3.2,.isl false (a_1.map aI)] 33 ?_
 refine oq 49 (I (len a_1)) rfl (bw rfl rfl rfl (bN rfl)) ?_
 refine cq 2 [15] [B (decide (x3.2<(len a_1)))] 65 ?_
 refine sq h ?_ ?_<;>intro h
 ·refine aq 1 ?_
  refine cq 6 [18,19] [.isl false (a_1.map aI),I x3.2] 97 ?_
  obtain⟨e4,he4,h⟩:=bS h
  refine oq 113 (.iptr (bK e4) 0) rfl (al rfl rfl rfl (bo rfl rfl (dK e4) rfl he4)) ?_
  refine cq 2 [21,22] [bK e4,I x3.1] 145 ?_
  obtain⟨r5,hr5,h⟩:=bS h
  refine oq 161 (I r5) rfl (bG rfl rfl (bX rfl rfl rfl (bg (bT rfl) (bg (bT rfl) cX)) (QM bE hr5) (.inr rfl) dF rfl rfl rfl)) ?_
  refine cq 7 [1,25] [I r5,B (decide (r5<0))] 209 ?_
  refine sq h ?_ ?_<;>intro h
  ·refine cq 4 [4] [I (-1)] 225 ?_
   exact b8 rfl (hr _ (an h) _ (qp [I (-1)]))
  ·refine aq 1 ?_
   refine cq 6 [5] [I (ac (x3.2+1))] 257 ?_
   refine cY ?_
   exact rf [0,1,5] [] (ih _ _ h hr hn :)
 ·refine aq 1 ?_
  exact rf [1] [] (hn _ (an h) :) (hk:=hK)
theorem Y4 (bE:(Condition×Int)→Option Int)(a_1:List Condition)(aw:Int)(r:Int)(h:xO bE a_1 aw=some r):br (M5 bE) Tryz.f168 [false,false] 0 (Fz (a_1,aw)) (FA r):=by
 show Run _ _ (UL bE (a_1,aw) r) [.code UM] _
 refine rI 27 [(0,.isl false (a_1.map aI)),(1,I aw)] [] 1 ?_
 unfold xO at h
 refine cq 8 [6,7] [I aw,.isl false (a_1.map aI)] 49 ?_
 refine oq 65 (I (len a_1)) rfl (bw rfl rfl rfl (bN rfl)) ?_
 refine cq 9 [1,11] [I (ac (aw - (len a_1))),B (decide ((ac (aw - (len a_1)))<0))] 129 ?_
 refine sq h ?_ ?_<;>intro h
 ·refine cq 4 [4] [I (-1)] 145 ?_
  obtain rfl:=sI h
  exact rP [I (-1)]
 ·refine aq 1 ?_
  refine cq 6 [5] [I (0)] 145 ?_
  obtain⟨y6,hy6,hy61,hy62⟩:=bJ h
  refine bO rfl ?_
  refine rf [0,1,5] [] (PF bE a_1 aw rfl ((ac (aw - (len a_1))),0) _ hy6 (fun r' e st hq=>by rw[hy61 r' e] at hq;exact hq) fun u6 hu=>?_)
  replace h:=hy62 u6 hu
  refine cq 5 [4] [I u6] 33 ?_
  obtain rfl:=sI h
  exact rP [I u6]
theorem UN {G:b7}(bE:(Condition×Int)→Option Int)(OA:bZ G 134 (tc bE)):bZ G 168 (CG bE):=gT 2 0 (aO OA bv) cf Tryz.func168 (fun a r h=>Y4 bE a.1 a.2 r h)
noncomputable def CF :=tc (aL qH)
theorem aet {a_1:Condition}{aw:Int}{r}(h:xL a_1 aw=some r):CF.F (xM (a_1,aw))=some (xN r):=QM (aL qH) h
noncomputable def aev :=aH Tryz.f134
noncomputable def UJ (bE:(Condition×Int)→Option Int):Env:=ce [(168,(CG bE))]
def aeu (bE:(Condition×Int)→Option Int)(x:Condition×Int)(r:Int):St→Prop:=QF (UJ bE) Tryz.f134 [false,false] (xM x) (xN r)
theorem Y3 (bE:(Condition×Int)→Option Int)(a_1:Condition)(aw:Int)(r:Int)(h:uE bE a_1 aw=some r):br (UJ bE) Tryz.f134 [false,false] 0 (xM (a_1,aw)) (xN r):=by
 show Run _ _ (aeu bE (a_1,aw) r) [.code aev] _
 refine rI 19 [(0,bK a_1),(1,I aw)] [] 1 ?_
 unfold uE at h
 refine ck 20 [1,2,11] [] [1] [] [I (ac (aw - (len a_1.Name))),.hp 1 0 [] 4 0 0,B (decide ((ac (aw - (len a_1.Name)))<0))] [some ⟨0,4,[bK a_1]⟩] 161 (by kernel_rfl) ?_
 refine sq h ?_ ?_<;>intro h
 ·refine cq 4 [4] [I (-1)] 177 ?_
  obtain rfl:=sI h
  exact rP [I (-1)]
 ·refine aq 1 ?_
  refine cq 5 [13,14] [.isl false (a_1.Parts.map aI),I (ac (aw - (len a_1.Name)))] 209 ?_
  obtain⟨r3,hr3,h⟩:=bS h
  refine oq 225 (I r3) rfl (bG rfl rfl (bX rfl rfl rfl (bg (bT rfl) (bg (bT rfl) cX)) (aew bE hr3) (.inr rfl) dF rfl rfl rfl)) ?_
  refine cq 8 [1,17] [I r3,B (decide (r3<0))] 273 ?_
  refine sq h ?_ ?_<;>intro h
  ·refine cq 4 [4] [I (-1)] 289 ?_
   obtain rfl:=sI h
   exact rP [I (-1)]
  ·refine aq 1 ?_
   refine cq 5 [4] [I r3] 305 ?_
   obtain rfl:=sI h
   exact rP [I r3]
theorem UK {G:b7}:bZ G 134 CF:=jM fun bE OA=>gT 2 0 (aO (UN bE OA) bv) cf Tryz.func134 (fun a r h=>Y3 bE a.1 a.2 r h)
def Fv:(Clause×Int)→List V:=cA au (oA I)
def Fw (r:Int):V×List V:=(I r,[])
noncomputable def CC :=bi [false,false] Fv Fw fun x=>vW x.1 x.2
theorem aep {a_1:Clause}{aw:Int}{r}(h:vW a_1 aw=some r):CC.F (Fv (a_1,aw))=some (Fw r):=aJ (aN dV (aK bc)) h
noncomputable def aer :=aH Tryz.f88
noncomputable def UE :=ce [(134,CF)]
def aeq (x:Clause×Int)(r:Int):St→Prop:=QF UE Tryz.f88 [false,false] (Fv x) (Fw r)
theorem Y0 (a_1:Clause)(aw:Int)(r:Int)(h:vW a_1 aw=some r):br UE Tryz.f88 [false,false] 0 (Fv (a_1,aw)) (Fw r):=by
 show Run _ _ (aeq (a_1,aw) r) [.code aer] _
 refine rI 33 [(0,au a_1),(1,I aw)] [] 1 ?_
 unfold vW at h
 refine ck 20 [1,2,11] [] [1] [] [I (ac (aw - (len a_1.Id))),.hp 1 0 [] 12 0 0,B (decide ((ac (aw - (len a_1.Id)))<0))] [some ⟨0,12,[au a_1]⟩] 161 (by kernel_rfl) ?_
 refine sq h ?_ ?_<;>intro h
 ·refine cq 4 [4] [I (-1)] 177 ?_
  obtain rfl:=sI h
  exact rP [I (-1)]
 ·refine aq 1 ?_
  refine cq 15 [1,18] [I (ac ((ac (aw - (len a_1.Id))) - (len a_1.Action))),B (decide ((ac ((ac (aw - (len a_1.Id))) - (len a_1.Action)))<0))] 289 ?_
  refine sq h ?_ ?_<;>intro h
  ·refine cq 4 [4] [I (-1)] 305 ?_
   obtain rfl:=sI h
   exact rP [I (-1)]
  ·refine aq 1 ?_
   refine cq 5 [20,21] [bK a_1.When,I (ac ((ac (aw - (len a_1.Id))) - (len a_1.Action)))] 337 ?_
   obtain⟨r3,hr3,h⟩:=bS h
   refine oq 353 (I r3) rfl (cP (aet hr3)) ?_
   refine cq 8 [1,24] [I r3,B (decide (r3<0))] 401 ?_
   refine sq h ?_ ?_<;>intro h
   ·refine cq 4 [4] [I (-1)] 417 ?_
    obtain rfl:=sI h
    exact rP [I (-1)]
   ·refine aq 1 ?_
    refine cq 15 [1,31] [I (ac (r3 - (len a_1.Repair))),B (decide ((ac (r3 - (len a_1.Repair)))<0))] 529 ?_
    refine sq h ?_ ?_<;>intro h
    ·refine cq 4 [4] [I (-1)] 545 ?_
     obtain rfl:=sI h
     exact rP [I (-1)]
    ·refine aq 1 ?_
     refine cq 5 [4] [I (ac (r3 - (len a_1.Repair)))] 561 ?_
     obtain rfl:=sI h
     exact rP [I (ac (r3 - (len a_1.Repair)))]
theorem UF {G:b7}:bZ G 88 CC:=gT 2 0 (aO UK bv) cf Tryz.func88 (fun a r h=>Y0 a.1 a.2 r h)
def Fx:((List Clause)×Int)→List V:=cA (gj au) (oA I)
def Fy (r:Int):V×List V:=(I r,[])
noncomputable def CE :=bi [false,false] Fx Fy fun x=>CD x.1 x.2
theorem aes {a_1:List Clause}{aw:Int}{r}(h:CD a_1 aw=some r):CE.F (Fx (a_1,aw))=some (Fy r):=aJ (aN (cn dV) (aK bc)) h
noncomputable def UH :=aH Tryz.f42
noncomputable def M4 :=ce [(88,CC)]
def UG (x:(List Clause)×Int)(r:Int):St→Prop:=QF M4 Tryz.f42 [false,false] (Fx x) (Fy r)
theorem PE (a_1:List Clause)(aw:Int):cj M4 0 (UG (a_1,aw)) (cL (cL (cR (cL (cR (cR (cR UH))))))) 0 (uD a_1 aw) (fun u=>(sT 27 [(1,I u)] [] 1)) fun x3=>(sT 27 [(0,.isl false (a_1.map au)),(1,I x3.1),(5,I x3.2)] [] 1):=ef (AD a_1 aw) fun {Q K} hK self ih x3 y h hr hn=>by
 unfold od at h
 refine cq 5 [12,13] [I x3.2,.isl false (a_1.map au)] 33 ?_
 refine oq 49 (I (len a_1)) rfl (bw rfl rfl rfl (bN rfl)) ?_
 refine cq 2 [15] [B (decide (x3.2<(len a_1)))] 65 ?_
 refine sq h ?_ ?_<;>intro h
 ·refine aq 1 ?_
  refine cq 6 [18,19] [.isl false (a_1.map au),I x3.2] 97 ?_
  obtain⟨e4,he4,h⟩:=bS h
  refine oq 113 (.iptr (au e4) 0) rfl (al rfl rfl rfl (bo rfl rfl rfl rfl he4)) ?_
  refine cq 2 [21,22] [au e4,I x3.1] 145 ?_
  obtain⟨r5,hr5,h⟩:=bS h
  refine oq 161 (I r5) rfl (cP (aep hr5)) ?_
  refine cq 7 [1,25] [I r5,B (decide (r5<0))] 209 ?_
  refine sq h ?_ ?_<;>intro h
  ·refine cq 4 [4] [I (-1)] 225 ?_
   exact b8 rfl (hr _ (an h) _ (qp [I (-1)]))
  ·refine aq 1 ?_
   refine cq 6 [5] [I (ac (x3.2+1))] 257 ?_
   refine cY ?_
   exact rf [0,1,5] [] (ih _ _ h hr hn :)
 ·refine aq 1 ?_
  exact rf [1] [] (hn _ (an h) :) (hk:=hK)
theorem Y1 (a_1:List Clause)(aw:Int)(r:Int)(h:CD a_1 aw=some r):br M4 Tryz.f42 [false,false] 0 (Fx (a_1,aw)) (Fy r):=by
 show Run _ _ (UG (a_1,aw) r) [.code UH] _
 refine rI 27 [(0,.isl false (a_1.map au)),(1,I aw)] [] 1 ?_
 unfold CD at h
 refine cq 8 [6,7] [I aw,.isl false (a_1.map au)] 49 ?_
 refine oq 65 (I (len a_1)) rfl (bw rfl rfl rfl (bN rfl)) ?_
 refine cq 9 [1,11] [I (ac (aw - (len a_1))),B (decide ((ac (aw - (len a_1)))<0))] 129 ?_
 refine sq h ?_ ?_<;>intro h
 ·refine cq 4 [4] [I (-1)] 145 ?_
  obtain rfl:=sI h
  exact rP [I (-1)]
 ·refine aq 1 ?_
  refine cq 6 [5] [I (0)] 145 ?_
  obtain⟨y6,hy6,hy61,hy62⟩:=bJ h
  refine bO rfl ?_
  refine rf [0,1,5] [] (PE a_1 aw rfl ((ac (aw - (len a_1))),0) _ hy6 (fun r' e st hq=>by rw[hy61 r' e] at hq;exact hq) fun u6 hu=>?_)
  replace h:=hy62 u6 hu
  refine cq 5 [4] [I u6] 33 ?_
  obtain rfl:=sI h
  exact rP [I u6]
theorem UI {G:b7}:bZ G 42 CE:=gT 2 0 (aO UF bv) cf Tryz.func42 (fun a r h=>Y1 a.1 a.2 r h)
def FB:(Contract×Int)→List V:=cA aP (oA I)
def FC (r:Int):V×List V:=(I r,[])
noncomputable def CI :=bi [false,false] FB FC fun x=>CH x.1 x.2
theorem aex {a_1:Contract}{aw:Int}{r}(h:CH a_1 aw=some r):CI.F (FB (a_1,aw))=some (FC r):=aJ (aN bb (aK bc)) h
noncomputable def aez :=aH Tryz.f12
noncomputable def UO :=ce [(41,vX),(42,CE)]
def aey (x:Contract×Int)(r:Int):St→Prop:=QF UO Tryz.f12 [false,false] (FB x) (FC r)
theorem Y5 (a_1:Contract)(aw:Int)(r:Int)(h:CH a_1 aw=some r):br UO Tryz.f12 [false,false] 0 (FB (a_1,aw)) (FC r):=by
 show Run _ _ (aey (a_1,aw) r) [.code aez] _
 refine rI 18 [(0,aP a_1),(1,I aw)] [] 1 ?_
 unfold CH at h
 refine ck 10 [2,6,7] [] [1] [] [.hp 1 0 [] 2 0 0,.isl false (a_1.Parties.map str),I aw] [some ⟨0,2,[aP a_1]⟩] 81 (by kernel_rfl) ?_
 obtain⟨r3,hr3,h⟩:=bS h
 refine oq 97 (I r3) rfl (cP (UX hr3)) ?_
 refine cq 8 [1,10] [I r3,B (decide (r3<0))] 145 ?_
 refine sq h ?_ ?_<;>intro h
 ·refine cq 4 [4] [I (-1)] 161 ?_
  obtain rfl:=sI h
  exact rP [I (-1)]
 ·refine aq 1 ?_
  refine cq 5 [12,13] [.isl false (a_1.Clauses.map au),I r3] 193 ?_
  obtain⟨r4,hr4,h⟩:=bS h
  refine oq 209 (I r4) rfl (cP (aes hr4)) ?_
  refine cq 8 [1,16] [I r4,B (decide (r4<0))] 257 ?_
  refine sq h ?_ ?_<;>intro h
  ·refine cq 4 [4] [I (-1)] 273 ?_
   obtain rfl:=sI h
   exact rP [I (-1)]
  ·refine aq 1 ?_
   refine cq 5 [4] [I r4] 289 ?_
   obtain rfl:=sI h
   exact rP [I r4]
theorem UQ {G:b7}:bZ G 12 CI:=gT 2 0 (aO KE (aO UI bv)) cf Tryz.func12 (fun a r h=>Y5 a.1 a.2 r h)
def FD:((List Duty)×Int)→List V:=cA (gj ah) (oA I)
def FE (r:Int):V×List V:=(I r,[])
noncomputable def CK :=bi [false,false] FD FE fun x=>CJ x.1 x.2
theorem aeA {a_1:List Duty}{aw:Int}{r}(h:CJ a_1 aw=some r):CK.F (FD (a_1,aw))=some (FE r):=aJ (aN (cn eh) (aK bc)) h
noncomputable def aeC :=aH Tryz.f53
noncomputable def UR :=ce []
def aeB (x:(List Duty)×Int)(r:Int):St→Prop:=QF UR Tryz.f53 [false,false] (FD x) (FE r)
theorem Y6 (a_1:List Duty)(aw:Int)(r:Int)(h:CJ a_1 aw=some r):br UR Tryz.f53 [false,false] 0 (FD (a_1,aw)) (FE r):=by
 show Run _ _ (aeB (a_1,aw) r) [.code aeC] _
 refine rI 12 [(0,.isl false (a_1.map ah)),(1,I aw)] [] 1 ?_
 unfold CJ at h
 refine cq 8 [5,6] [I aw,.isl false (a_1.map ah)] 49 ?_
 refine oq 65 (I (len a_1)) rfl (bw rfl rfl rfl (bN rfl)) ?_
 refine cq 9 [1,10] [I (ac (aw - (len a_1))),B (decide ((ac (aw - (len a_1)))<0))] 129 ?_
 refine sq h ?_ ?_<;>intro h
 ·refine cq 4 [4] [I (-1)] 145 ?_
  obtain rfl:=sI h
  exact rP [I (-1)]
 ·refine aq 1 ?_
  refine cq 5 [4] [I (ac (aw - (len a_1)))] 161 ?_
  obtain rfl:=sI h
  exact rP [I (ac (aw - (len a_1)))]
theorem US {G:b7}:bZ G 53 CK:=gT 2 0 bv cf Tryz.func53 (fun a r h=>Y6 a.1 a.2 r h)
def FF:((List Int)×Int)→List V:=cA (gj I) (oA I)
def FG (r:Int):V×List V:=(I r,[])
noncomputable def CM :=bi [false,false] FF FG fun x=>CL x.1 x.2
theorem aeD {a_1:List Int}{aw:Int}{r}(h:CL a_1 aw=some r):CM.F (FF (a_1,aw))=some (FG r):=aJ (aN (cn bc) (aK bc)) h
noncomputable def aeF :=aH Tryz.f54
noncomputable def UT :=ce []
def aeE (x:(List Int)×Int)(r:Int):St→Prop:=QF UT Tryz.f54 [false,false] (FF x) (FG r)
theorem Y7 (a_1:List Int)(aw:Int)(r:Int)(h:CL a_1 aw=some r):br UT Tryz.f54 [false,false] 0 (FF (a_1,aw)) (FG r):=by
 show Run _ _ (aeE (a_1,aw) r) [.code aeF] _
 refine rI 12 [(0,.isl false (a_1.map I)),(1,I aw)] [] 1 ?_
 unfold CL at h
 refine cq 8 [5,6] [I aw,.isl false (a_1.map I)] 49 ?_
 refine oq 65 (I (len a_1)) rfl (bw rfl rfl rfl (bN rfl)) ?_
 refine cq 9 [1,10] [I (ac (aw - (len a_1))),B (decide ((ac (aw - (len a_1)))<0))] 129 ?_
 refine sq h ?_ ?_<;>intro h
 ·refine cq 4 [4] [I (-1)] 145 ?_
  obtain rfl:=sI h
  exact rP [I (-1)]
 ·refine aq 1 ?_
  refine cq 5 [4] [I (ac (aw - (len a_1)))] 161 ?_
  obtain rfl:=sI h
  exact rP [I (ac (aw - (len a_1)))]
theorem UU {G:b7}:bZ G 54 CM:=gT 2 0 bv cf Tryz.func54 (fun a r h=>Y7 a.1 a.2 r h)
def FH:(State×Int)→List V:=cA bH (oA I)
def FI (r:Int):V×List V:=(I r,[])
noncomputable def CO :=bi [false,false] FH FI fun x=>CN x.1 x.2
theorem aeG {a_1:State}{aw:Int}{r}(h:CN a_1 aw=some r):CO.F (FH (a_1,aw))=some (FI r):=aJ (aN cd (aK bc)) h
noncomputable def aeI :=aH Tryz.f21
noncomputable def UV :=ce [(41,vX),(53,CK),(54,CM)]
def aeH (x:State×Int)(r:Int):St→Prop:=QF UV Tryz.f21 [false,false] (FH x) (FI r)
theorem Y8 (a_1:State)(aw:Int)(r:Int)(h:CN a_1 aw=some r):br UV Tryz.f21 [false,false] 0 (FH (a_1,aw)) (FI r):=by
 show Run _ _ (aeH (a_1,aw) r) [.code aeI] _
 refine rI 24 [(0,bH a_1),(1,I aw)] [] 1 ?_
 unfold CN at h
 refine ck 10 [2,6,7] [] [1] [] [.hp 1 0 [] 5 0 0,.isl false (a_1.Facts.map str),I aw] [some ⟨0,5,[bH a_1]⟩] 81 (by kernel_rfl) ?_
 obtain⟨r3,hr3,h⟩:=bS h
 refine oq 97 (I r3) rfl (cP (UX hr3)) ?_
 refine cq 8 [1,10] [I r3,B (decide (r3<0))] 145 ?_
 refine sq h ?_ ?_<;>intro h
 ·refine cq 4 [4] [I (-1)] 161 ?_
  obtain rfl:=sI h
  exact rP [I (-1)]
 ·refine aq 1 ?_
  refine cq 5 [12,13] [.isl false (a_1.Duties.map ah),I r3] 193 ?_
  obtain⟨r4,hr4,h⟩:=bS h
  refine oq 209 (I r4) rfl (cP (aeA hr4)) ?_
  refine cq 8 [1,16] [I r4,B (decide (r4<0))] 257 ?_
  refine sq h ?_ ?_<;>intro h
  ·refine cq 4 [4] [I (-1)] 273 ?_
   obtain rfl:=sI h
   exact rP [I (-1)]
  ·refine aq 1 ?_
   refine cq 5 [18,19] [.isl false (a_1.Balances.map I),I r4] 305 ?_
   obtain⟨r5,hr5,h⟩:=bS h
   refine oq 321 (I r5) rfl (cP (aeD hr5)) ?_
   refine cq 8 [1,22] [I r5,B (decide (r5<0))] 369 ?_
   refine sq h ?_ ?_<;>intro h
   ·refine cq 4 [4] [I (-1)] 385 ?_
    obtain rfl:=sI h
    exact rP [I (-1)]
   ·refine aq 1 ?_
    refine cq 5 [4] [I r5] 401 ?_
    obtain rfl:=sI h
    exact rP [I r5]
theorem UW {G:b7}:bZ G 21 CO:=gT 2 0 (aO KE (aO US (aO UU bv))) cf Tryz.func21 (fun a r h=>Y8 a.1 a.2 r h)
def F1:(List ae)→List V:=oA (gj str)
def F2 (r:(List ae)):V×List V:=(.usl 1 (r.map str),[])
noncomputable def vY :=bi [false] F1 F2 fun x=>xV x
theorem Vm {a_1:List ae}{r}(h:xV a_1=some r):vY.F (F1 a_1)=some (F2 r):=aJ (aK (cn bQ)) h
noncomputable def Vo :=aH Tryz.f45
noncomputable def Nb :=ce []
def Vn (x:(List ae))(r:(List ae)):St→Prop:=QF Nb Tryz.f45 [false] (F1 x) (F2 r)
theorem PL (a_1:List ae):cj Nb 0 (Vn a_1) (cL (cL (cR (cL (cR (cR Vo)))))) 0 (uK a_1) (fun u=>(sT 22 [(3,.hs 1 0 [] 1 0 (u.map str).length)] [⟨0,1,u.map str⟩] 2)) fun x3=>(sT 22 [(0,.isl false (a_1.map str)),(3,.hs 1 0 [] 1 0 (x3.2.map str).length),(4,I x3.1)] [⟨0,1,x3.2.map str⟩] 2):=ef (AK a_1) fun {Q K} hK self ih x3 y h hr hn=>by
 unfold oo at h
 refine cq 5 [8,9] [I x3.1,.isl false (a_1.map str)] 34 ?_
 refine oq 50 (I (len a_1)) rfl (bw rfl rfl rfl (bN rfl)) ?_
 refine cq 2 [11] [B (decide (x3.1<(len a_1)))] 66 ?_
 refine sq h ?_ ?_<;>intro h
 ·refine aq 1 ?_
  refine cq 7 [14,15,16,17] [.hs 1 0 [] 1 0 (x3.2.map str).length,I x3.1,.isl false (a_1.map str),I x3.1] 130 ?_
  obtain⟨e4,he4,h⟩:=bS h
  refine oq 146 (.iptr (str e4) 0) rfl (al rfl rfl rfl (bo rfl rfl rfl rfl he4)) ?_
  refine cq 1 [19] [str e4] 162 ?_
  obtain⟨e5,he5,h⟩:=bS h
  refine oq 178 (.hp 1 0 [] 1 (0+Int.toNat x3.1) 0) rfl (al rfl rfl rfl (cp (f:=str) (xs:=x3.2) rfl rfl rfl he5)) ?_
  refine o0 194 rfl rfl (et rfl rfl (dG (path:=[]) (pl:=true) (e':=str e4) (es2':=(bM x3.2 x3.1 e4).map str) rfl (ba rfl) rfl rfl rfl aE (bU (f:=str) (xs:=x3.2) he5) rfl rfl rfl (gD (f:=str) (xs:=x3.2) (y:=e4)) cM 0 rfl)) ?_
  try rw[←fK (f:=str) (xs:=x3.2) (i:=x3.1) (z:=e4)]
  refine cq 7 [4] [I (ac (x3.1+1))] 242 ?_
  refine cY ?_
  exact rf [0,3,4] [1] (ih _ _ h hr hn :)
 ·refine aq 1 ?_
  exact rf [3] [1] (hn _ (an h) :) (hk:=hK)
theorem Zk (a_1:List ae)(r:(List ae))(h:xV a_1=some r):br Nb Tryz.f45 [false] 0 (F1 a_1) (F2 r):=by
 show Run _ _ (Vn a_1 r) [.code Vo] _
 refine rI 22 [(0,.isl false (a_1.map str))] [] 1 ?_
 unfold xV at h
 refine cq 7 [5] [.isl false (a_1.map str)] 33 ?_
 refine oq 49 (I (len a_1)) rfl (bw rfl rfl rfl (bN rfl)) ?_
 obtain⟨m2,hm2,h⟩:=bS h
 refine oq 65 (.hs 49 0 [] 1 0 (m2.map str).length) rfl (lx rfl rfl (IW (f:=str) rfl rfl rfl (by decide) hm2 rfl)) ?_
 refine cq 8 [3,4] [.hs 49 0 [] 1 0 (m2.map str).length,I (0)] 97 ?_
 obtain⟨y6,hy6,hy61,hy62⟩:=bJ h
 refine bO rfl ?_
 refine rf [0,3,4] [49] (PL a_1 rfl (0,m2) _ hy6 (fun r' e st hq=>by rw[hy61 r' e] at hq;exact hq) fun u6 hu=>?_)
 replace h:=hy62 u6 hu
 refine cq 5 [2] [.hs 1 0 [] 1 0 (u6.map str).length] 34 ?_
 obtain rfl:=sI h
 exact b8 rfl ⟨_,fin (vs:=[.hs 1 0 [] 1 0 (u6.map str).length]) rfl (eV (fZ rfl (dx rfl rfl)) dU) rfl (cu eN),eH⟩
theorem KF {G:b7}:bZ G 45 vY:=gT 1 0 bv cf Tryz.func45 (fun a r h=>Zk a r h)
def xR:Condition→List V:=oA bK
def xS (r:Condition):V×List V:=(rh r,[])
noncomputable def te (bF:Condition→Option Condition):Ent:=bi [false] xR xS bF
theorem QN (bF:Condition→Option Condition){x}{r}(h:bF x=some r):(te bF).F (xR x)=some (xS r):=aJ (aK dP) h
def FP:(List Condition)→List V:=oA (gj aI)
def FQ (r:(List Condition)):V×List V:=(.usl 4 (r.map aj),[])
noncomputable def CU (bF:Condition→Option Condition):Ent:=bi [false] FP FQ fun x=>xT bF x
theorem aeQ (bF:Condition→Option Condition){a_1:List Condition}{r}(h:xT bF a_1=some r):(CU bF).F (FP a_1)=some (FQ r):=aJ (aK (cn fW)) h
noncomputable def U8 :=aH Tryz.f174
noncomputable def M8 (bF:Condition→Option Condition):Env:=ce [(139,(te bF))]
def U7 (bF:Condition→Option Condition)(x:(List Condition))(r:(List Condition)):St→Prop:=QF (M8 bF) Tryz.f174 [false] (FP x) (FQ r)
theorem PI (bF:Condition→Option Condition)(a_1:List Condition):cj (M8 bF) 0 (U7 bF a_1) (cL (cL (cR (cL (cR (cR U8)))))) 0 (rN bF a_1) (fun u=>(sT 23 [(3,.hs 1 0 [] 4 0 (u.map aj).length)] [⟨0,4,u.map aj⟩] 2)) fun x3=>(sT 23 [(0,.isl false (a_1.map aI)),(3,.hs 1 0 [] 4 0 (x3.2.map aj).length),(4,I x3.1)] [⟨0,4,x3.2.map aj⟩] 2):=ef (AH bF a_1) fun {Q K} hK self ih x3 y h hr hn=>by
 unfold lX at h
 refine cq 5 [8,9] [I x3.1,.isl false (a_1.map aI)] 34 ?_
 refine oq 50 (I (len a_1)) rfl (bw rfl rfl rfl (bN rfl)) ?_
 refine cq 2 [11] [B (decide (x3.1<(len a_1)))] 66 ?_
 refine sq h ?_ ?_<;>intro h
 ·refine aq 1 ?_
  refine cq 7 [14,15,16,17] [.hs 1 0 [] 4 0 (x3.2.map aj).length,I x3.1,.isl false (a_1.map aI),I x3.1] 130 ?_
  obtain⟨e4,he4,h⟩:=bS h
  refine oq 146 (.iptr (bK e4) 0) rfl (al rfl rfl rfl (bo rfl rfl (dK e4) rfl he4)) ?_
  refine cq 1 [19] [bK e4] 162 ?_
  obtain⟨r5,hr5,h⟩:=bS h
  refine oq 178 (.agg [I r5.Op,str r5.Name,I r5.Day,.hs 162 0 [] 4 0 (r5.Parts.map aj).length]) rfl (bG rfl rfl (bX rfl rfl rfl (bg (bT rfl) cX) (QN bF hr5) (.inr rfl) dF rfl rfl rfl)) ?_
  obtain⟨e6,he6,h⟩:=bS h
  refine oq 194 (.hp 1 0 [] 4 (0+Int.toNat x3.1) 0) rfl (al rfl rfl rfl (cp (f:=aj) (xs:=x3.2) rfl rfl rfl he6)) ?_
  refine o0 210 rfl rfl (et rfl rfl (dG (path:=[]) (pl:=false) (e':=rh r5) (es2':=(bM x3.2 x3.1 r5).map aj) rfl (nQ (cC (dB rfl) (cC (dB rfl) (cC (dB rfl) (cC (dx rfl rfl) nR))))) rfl rfl rfl aE (mq (f:=aj) (xs:=x3.2) (dM e6) he6) rfl rfl rfl (Eq (f:=aj) (xs:=x3.2) (dM r5)) cM 1 rfl)) ?_
  try rw[←fK (f:=aj) (xs:=x3.2) (i:=x3.1) (z:=r5)]
  refine cq 7 [4] [I (ac (x3.1+1))] 258 ?_
  refine cY ?_
  exact rf [0,3,4] [1] (ih _ _ h hr hn :)
 ·refine aq 1 ?_
  exact rf [3] [1] (hn _ (an h) :) (hk:=hK)
theorem Ze (bF:Condition→Option Condition)(a_1:List Condition)(r:(List Condition))(h:xT bF a_1=some r):br (M8 bF) Tryz.f174 [false] 0 (FP a_1) (FQ r):=by
 show Run _ _ (U7 bF a_1 r) [.code U8] _
 refine rI 23 [(0,.isl false (a_1.map aI))] [] 1 ?_
 unfold xT at h
 refine cq 7 [5] [.isl false (a_1.map aI)] 33 ?_
 refine oq 49 (I (len a_1)) rfl (bw rfl rfl rfl (bN rfl)) ?_
 obtain⟨m2,hm2,h⟩:=bS h
 refine oq 65 (.hs 49 0 [] 4 0 (m2.map aj).length) rfl (lx rfl rfl (XV (g:=aj) (f:=fun _=>(.agg [I (0),str ([]),I (0),.isl true []]:V)) (z0:=(Condition.mk 0 [] 0 [])) rfl rfl rfl (by decide) hm2 rfl)) ?_
 refine gm 49 (m2.map aj) rfl rfl (Om hm2 ((dM _).symm▸iu (aR (.refl _) (aR (.refl _) (aR (.refl _) (aR (.nil _) fi)))))) ?_
 refine cq 8 [3,4] [.hs 49 0 [] 4 0 (m2.map aj).length,I (0)] 97 ?_
 obtain⟨y7,hy7,hy71,hy72⟩:=bJ h
 refine bO rfl ?_
 refine rf [0,3,4] [49] (PI bF a_1 rfl (0,m2) _ hy7 (fun r' e st hq=>by rw[hy71 r' e] at hq;exact hq) fun u7 hu=>?_)
 replace h:=hy72 u7 hu
 refine cq 5 [2] [.hs 1 0 [] 4 0 (u7.map aj).length] 34 ?_
 obtain rfl:=sI h
 exact b8 rfl ⟨_,fin (vs:=[.hs 1 0 [] 4 0 (u7.map aj).length]) rfl (eV (fZ rfl (dx rfl rfl)) dU) rfl (cu eN),eH⟩
theorem U9 {G:b7}(bF:Condition→Option Condition)(OB:bZ G 139 (te bF)):bZ G 174 (CU bF):=gT 1 0 (aO OB bv) cf Tryz.func174 (fun a r h=>Ze bF a r h)
noncomputable def CT :=te (aL qI)
theorem aeN {a_1:Condition}{r}(h:CS a_1=some r):CT.F (xR a_1)=some (xS r):=QN (aL qI) h
noncomputable def aeP :=aH Tryz.f139
noncomputable def U5 (bF:Condition→Option Condition):Env:=ce [(174,(CU bF))]
def aeO (bF:Condition→Option Condition)(x:Condition)(r:Condition):St→Prop:=QF (U5 bF) Tryz.f139 [false] (xR x) (xS r)
theorem Zd (bF:Condition→Option Condition)(a_1:Condition)(r:Condition)(h:uH bF a_1=some r):br (U5 bF) Tryz.f139 [false] 0 (xR a_1) (xS r):=by
 show Run _ _ (aeO bF a_1 r) [.code aeP] _
 refine rI 18 [(0,bK a_1)] [] 1 ?_
 unfold uH at h
 refine ck 4 [1,2] [] [1,17] [] [.hp 1 0 [] 4 0 0,.hp 17 0 [] 4 0 0] [some ⟨0,4,[bK a_1]⟩,some ⟨0,4,[.agg [I (0),str ([]),I (0),.isl true []]]⟩] 33 (by kernel_rfl) ?_
 refine gm 17 [.agg [I (0),str ([]),I (0),.usl 4 (([]).map aj)]] rfl rfl (aR (iu (aR (.refl _) (aR (.refl _) (aR (.refl _) (aR (.nil _) fi))))) fi) ?_
 refine ck 4 [3] [] [33] [] [.hp 33 0 [] 4 0 0] [some ⟨0,4,[.agg [I (0),str ([]),I (0),.isl true []]]⟩] 49 (by kernel_rfl) ?_
 refine gm 33 [.agg [I (0),str ([]),I (0),.usl 4 (([]).map aj)]] rfl rfl (aR (iu (aR (.refl _) (aR (.refl _) (aR (.refl _) (aR (.nil _) fi))))) fi) ?_
 refine ck 26 [14] [] [33] [] [.isl false (a_1.Parts.map aI)] [some ⟨1,4,[.agg [I a_1.Op,str a_1.Name,I a_1.Day,.usl 4 (([]).map aj)]]⟩] 273 (by kernel_rfl) ?_
 obtain⟨r2,hr2,h⟩:=bS h
 refine oq 289 (.hs 273 0 [] 4 0 (r2.map aj).length) rfl (bG rfl rfl (bX rfl rfl rfl (bg (bT rfl) cX) (aeQ bF hr2) (.inr rfl) dF rfl rfl rfl)) ?_
 refine cq 1 [16] [.hp 33 0 [] 4 0 3] 305 ?_
 refine o0 321 rfl rfl (et rfl rfl (dG (path:=[]) (pl:=false) (e':=.agg [I a_1.Op,str a_1.Name,I a_1.Day,.usl 4 (r2.map aj)]) (es2':=[.agg [I a_1.Op,str a_1.Name,I a_1.Day,.usl 4 (r2.map aj)]]) rfl (fZ rfl (dx rfl rfl)) rfl rfl rfl aE rfl rfl rfl rfl rfl cM 2 rfl)) ?_
 refine cq 4 [17] [.agg [I a_1.Op,str a_1.Name,I a_1.Day,.hs 33 2 [(0,3)] 4 0 (r2.map aj).length]] 337 ?_
 refine o0 353 rfl rfl (et rfl rfl (dG (path:=[]) (pl:=false) (e':=.agg [I a_1.Op,str a_1.Name,I a_1.Day,.usl 4 (r2.map aj)]) (es2':=[.agg [I a_1.Op,str a_1.Name,I a_1.Day,.usl 4 (r2.map aj)]]) rfl (nQ (cC (dB rfl) (cC (dB rfl) (cC (dB rfl) (cC (jg (path:=[(0,3)]) rfl rfl (eI rfl rfl aE) rfl (kX (path:=[]) (i:=0) (k:=3) (e':=.agg [I a_1.Op,str a_1.Name,I a_1.Day,.dead]) (es2':=[.agg [I a_1.Op,str a_1.Name,I a_1.Day,.dead]]) aE rfl rfl rfl cM)) nR))))) rfl rfl rfl aE rfl rfl rfl rfl rfl cM 2 rfl)) ?_
 refine aq 1 ?_
 obtain rfl:=sI h
 exact b8 rfl ⟨_,fin (vs:=[.agg [I a_1.Op,str a_1.Name,I a_1.Day,.hs 17 2 [(0,3)] 4 0 (r2.map aj).length]]) (Pb (vK rfl rfl rfl) Pc) (eV (nQ (cC (dB rfl) (cC (dB rfl) (cC (dB rfl) (cC (jg (path:=[(0,3)]) rfl rfl (eI rfl rfl aE) rfl (kX (path:=[]) (i:=0) (k:=3) (e':=.agg [I a_1.Op,str a_1.Name,I a_1.Day,.dead]) (es2':=[.agg [I a_1.Op,str a_1.Name,I a_1.Day,.dead]]) aE rfl rfl rfl cM)) nR))))) dU) rfl (cu eN),eH⟩
theorem U6 {G:b7}:bZ G 139 CT:=jM fun bF OB=>gT 1 0 (aO (U9 bF OB) bv) cf Tryz.func139 (fun a r h=>Zd bF a r h)
def FL:Clause→List V:=oA au
def FM (r:Clause):V×List V:=(vP r,[])
noncomputable def CP :=bi [false] FL FM fun x=>xQ x
theorem aeJ {a_1:Clause}{r}(h:xQ a_1=some r):CP.F (FL a_1)=some (FM r):=aJ (aK dV) h
noncomputable def aeL :=aH Tryz.f97
noncomputable def U0 :=ce [(139,CT)]
def aeK (x:Clause)(r:Clause):St→Prop:=QF U0 Tryz.f97 [false] (FL x) (FM r)
theorem Za (a_1:Clause)(r:Clause)(h:xQ a_1=some r):br U0 Tryz.f97 [false] 0 (FL a_1) (FM r):=by
 show Run _ _ (aeK a_1 r) [.code aeL] _
 refine rI 33 [(0,au a_1)] [] 1 ?_
 unfold xQ at h
 refine ck 4 [1,2] [] [1,17] [] [.hp 1 0 [] 12 0 0,.hp 17 0 [] 12 0 0] [some ⟨0,12,[au a_1]⟩,some ⟨0,12,[.agg [str ([]),I (0),I (0),str ([]),I (0),I (0),I (0),str ([]),I (0),.isl true [],I (0),str ([])]]⟩] 33 (by kernel_rfl) ?_
 refine gm 17 [.agg [str ([]),I (0),I (0),str ([]),I (0),I (0),I (0),str ([]),I (0),.usl 4 (([]).map aj),I (0),str ([])]] rfl rfl (aR (iu (aR (.refl _) (aR (.refl _) (aR (.refl _) (aR (.refl _) (aR (.refl _) (aR (.refl _) (aR (.refl _) (aR (.refl _) (aR (.refl _) (aR (.nil _) (aR (.refl _) (aR (.refl _) fi))))))))))))) fi) ?_
 refine ck 4 [3] [] [33] [] [.hp 33 0 [] 12 0 0] [some ⟨0,12,[.agg [str ([]),I (0),I (0),str ([]),I (0),I (0),I (0),str ([]),I (0),.isl true [],I (0),str ([])]]⟩] 49 (by kernel_rfl) ?_
 refine gm 33 [.agg [str ([]),I (0),I (0),str ([]),I (0),I (0),I (0),str ([]),I (0),.usl 4 (([]).map aj),I (0),str ([])]] rfl rfl (aR (iu (aR (.refl _) (aR (.refl _) (aR (.refl _) (aR (.refl _) (aR (.refl _) (aR (.refl _) (aR (.refl _) (aR (.refl _) (aR (.refl _) (aR (.nil _) (aR (.refl _) (aR (.refl _) fi))))))))))))) fi) ?_
 refine ck 47 [23] [] [33] [] [bK a_1.When] [some ⟨1,12,[.agg [str a_1.Id,I a_1.Kind,I a_1.Party,str a_1.Action,I a_1.Other,I a_1.Amount,I (0),str ([]),I (0),.usl 4 (([]).map aj),I (0),str ([])]]⟩] 465 (by kernel_rfl) ?_
 obtain⟨r2,hr2,h⟩:=bS h
 refine oq 481 (.agg [I r2.Op,str r2.Name,I r2.Day,.hs 465 0 [] 4 0 (r2.Parts.map aj).length]) rfl (cP (aeN hr2)) ?_
 refine cq 1 [25] [.hp 33 0 [] 12 0 6] 497 ?_
 refine o0 513 rfl rfl (et rfl rfl (dG (path:=[]) (pl:=false) (e':=.agg [str a_1.Id,I a_1.Kind,I a_1.Party,str a_1.Action,I a_1.Other,I a_1.Amount,I r2.Op,str r2.Name,I r2.Day,.usl 4 (r2.Parts.map aj),I (0),str ([])]) (es2':=[.agg [str a_1.Id,I a_1.Kind,I a_1.Party,str a_1.Action,I a_1.Other,I a_1.Amount,I r2.Op,str r2.Name,I r2.Day,.usl 4 (r2.Parts.map aj),I (0),str ([])]]) rfl (nQ (cC (dB rfl) (cC (dB rfl) (cC (dB rfl) (cC (dx rfl rfl) nR))))) rfl rfl rfl aE rfl rfl rfl rfl rfl cM 2 rfl)) ?_
 refine ck 18 [32] [] [33] [] [.agg [str a_1.Id,I a_1.Kind,I a_1.Party,str a_1.Action,I a_1.Other,I a_1.Amount,I r2.Op,str r2.Name,I r2.Day,.hs 33 2 [(0,9)] 4 0 (r2.Parts.map aj).length,I a_1.Within,str a_1.Repair]] [some ⟨2,12,[.agg [str a_1.Id,I a_1.Kind,I a_1.Party,str a_1.Action,I a_1.Other,I a_1.Amount,I r2.Op,str r2.Name,I r2.Day,.usl 4 (r2.Parts.map aj),I a_1.Within,str a_1.Repair]]⟩] 657 (by kernel_rfl) ?_
 refine o0 673 rfl rfl (et rfl rfl (dG (path:=[]) (pl:=false) (e':=.agg [str a_1.Id,I a_1.Kind,I a_1.Party,str a_1.Action,I a_1.Other,I a_1.Amount,I r2.Op,str r2.Name,I r2.Day,.usl 4 (r2.Parts.map aj),I a_1.Within,str a_1.Repair]) (es2':=[.agg [str a_1.Id,I a_1.Kind,I a_1.Party,str a_1.Action,I a_1.Other,I a_1.Amount,I r2.Op,str r2.Name,I r2.Day,.usl 4 (r2.Parts.map aj),I a_1.Within,str a_1.Repair]]) rfl (nQ (cC (dB rfl) (cC (dB rfl) (cC (dB rfl) (cC (dB rfl) (cC (dB rfl) (cC (dB rfl) (cC (dB rfl) (cC (dB rfl) (cC (dB rfl) (cC (jg (path:=[(0,9)]) rfl rfl (eI rfl rfl aE) rfl (kX (path:=[]) (i:=0) (k:=9) (e':=.agg [str a_1.Id,I a_1.Kind,I a_1.Party,str a_1.Action,I a_1.Other,I a_1.Amount,I r2.Op,str r2.Name,I r2.Day,.dead,I a_1.Within,str a_1.Repair]) (es2':=[.agg [str a_1.Id,I a_1.Kind,I a_1.Party,str a_1.Action,I a_1.Other,I a_1.Amount,I r2.Op,str r2.Name,I r2.Day,.dead,I a_1.Within,str a_1.Repair]]) aE rfl rfl rfl cM)) (cC (dB rfl) (cC (dB rfl) nR))))))))))))) rfl rfl rfl aE rfl rfl rfl rfl rfl cM 2 rfl)) ?_
 refine aq 1 ?_
 obtain rfl:=sI h
 exact b8 rfl ⟨_,fin (vs:=[.agg [str a_1.Id,I a_1.Kind,I a_1.Party,str a_1.Action,I a_1.Other,I a_1.Amount,I r2.Op,str r2.Name,I r2.Day,.hs 17 2 [(0,9)] 4 0 (r2.Parts.map aj).length,I a_1.Within,str a_1.Repair]]) (Pb (vK rfl rfl rfl) Pc) (eV (nQ (cC (dB rfl) (cC (dB rfl) (cC (dB rfl) (cC (dB rfl) (cC (dB rfl) (cC (dB rfl) (cC (dB rfl) (cC (dB rfl) (cC (dB rfl) (cC (jg (path:=[(0,9)]) rfl rfl (eI rfl rfl aE) rfl (kX (path:=[]) (i:=0) (k:=9) (e':=.agg [str a_1.Id,I a_1.Kind,I a_1.Party,str a_1.Action,I a_1.Other,I a_1.Amount,I r2.Op,str r2.Name,I r2.Day,.dead,I a_1.Within,str a_1.Repair]) (es2':=[.agg [str a_1.Id,I a_1.Kind,I a_1.Party,str a_1.Action,I a_1.Other,I a_1.Amount,I r2.Op,str r2.Name,I r2.Day,.dead,I a_1.Within,str a_1.Repair]]) aE rfl rfl rfl cM)) (cC (dB rfl) (cC (dB rfl) nR))))))))))))) dU) rfl (cu eN),eH⟩
theorem U1 {G:b7}:bZ G 97 CP:=gT 1 0 (aO U6 bv) cf Tryz.func97 (fun a r h=>Za a r h)
def FN:(List Clause)→List V:=oA (gj au)
def FO (r:(List Clause)):V×List V:=(.usl 12 (r.map ak),[])
noncomputable def CR :=bi [false] FN FO fun x=>CQ x
theorem aeM {a_1:List Clause}{r}(h:CQ a_1=some r):CR.F (FN a_1)=some (FO r):=aJ (aK (cn dV)) h
noncomputable def U3 :=aH Tryz.f46
noncomputable def M7 :=ce [(97,CP)]
def U2 (x:(List Clause))(r:(List Clause)):St→Prop:=QF M7 Tryz.f46 [false] (FN x) (FO r)
theorem PH (a_1:List Clause):cj M7 0 (U2 a_1) (cL (cL (cR (cL (cR (cR U3)))))) 0 (uG a_1) (fun u=>(sT 23 [(3,.hs 1 0 [] 12 0 (u.map ak).length)] [⟨0,12,u.map ak⟩] 2)) fun x3=>(sT 23 [(0,.isl false (a_1.map au)),(3,.hs 1 0 [] 12 0 (x3.2.map ak).length),(4,I x3.1)] [⟨0,12,x3.2.map ak⟩] 2):=ef (AG a_1) fun {Q K} hK self ih x3 y h hr hn=>by
 unfold oh at h
 refine cq 5 [8,9] [I x3.1,.isl false (a_1.map au)] 34 ?_
 refine oq 50 (I (len a_1)) rfl (bw rfl rfl rfl (bN rfl)) ?_
 refine cq 2 [11] [B (decide (x3.1<(len a_1)))] 66 ?_
 refine sq h ?_ ?_<;>intro h
 ·refine aq 1 ?_
  refine cq 7 [14,15,16,17] [.hs 1 0 [] 12 0 (x3.2.map ak).length,I x3.1,.isl false (a_1.map au),I x3.1] 130 ?_
  obtain⟨e4,he4,h⟩:=bS h
  refine oq 146 (.iptr (au e4) 0) rfl (al rfl rfl rfl (bo rfl rfl rfl rfl he4)) ?_
  refine cq 1 [19] [au e4] 162 ?_
  obtain⟨r5,hr5,h⟩:=bS h
  refine oq 178 (.agg [str r5.Id,I r5.Kind,I r5.Party,str r5.Action,I r5.Other,I r5.Amount,I r5.When.Op,str r5.When.Name,I r5.When.Day,.hs 162 0 [] 4 0 (r5.When.Parts.map aj).length,I r5.Within,str r5.Repair]) rfl (cP (aeJ hr5)) ?_
  obtain⟨e6,he6,h⟩:=bS h
  refine oq 194 (.hp 1 0 [] 12 (0+Int.toNat x3.1) 0) rfl (al rfl rfl rfl (cp (f:=ak) (xs:=x3.2) rfl rfl rfl he6)) ?_
  refine o0 210 rfl rfl (et rfl rfl (dG (path:=[]) (pl:=false) (e':=vP r5) (es2':=(bM x3.2 x3.1 r5).map ak) rfl (nQ (cC (dB rfl) (cC (dB rfl) (cC (dB rfl) (cC (dB rfl) (cC (dB rfl) (cC (dB rfl) (cC (dB rfl) (cC (dB rfl) (cC (dB rfl) (cC (dx rfl rfl) (cC (dB rfl) (cC (dB rfl) nR))))))))))))) rfl rfl rfl aE (bU (f:=ak) (xs:=x3.2) he6) rfl rfl rfl (gD (f:=ak) (xs:=x3.2) (y:=r5)) cM 1 rfl)) ?_
  try rw[←fK (f:=ak) (xs:=x3.2) (i:=x3.1) (z:=r5)]
  refine cq 7 [4] [I (ac (x3.1+1))] 258 ?_
  refine cY ?_
  exact rf [0,3,4] [1] (ih _ _ h hr hn :)
 ·refine aq 1 ?_
  exact rf [3] [1] (hn _ (an h) :) (hk:=hK)
theorem Zb (a_1:List Clause)(r:(List Clause))(h:CQ a_1=some r):br M7 Tryz.f46 [false] 0 (FN a_1) (FO r):=by
 show Run _ _ (U2 a_1 r) [.code U3] _
 refine rI 23 [(0,.isl false (a_1.map au))] [] 1 ?_
 unfold CQ at h
 refine cq 7 [5] [.isl false (a_1.map au)] 33 ?_
 refine oq 49 (I (len a_1)) rfl (bw rfl rfl rfl (bN rfl)) ?_
 obtain⟨m2,hm2,h⟩:=bS h
 refine oq 65 (.hs 49 0 [] 12 0 (m2.map ak).length) rfl (lx rfl rfl (XV (g:=ak) (f:=fun _=>(.agg [str ([]),I (0),I (0),str ([]),I (0),I (0),I (0),str ([]),I (0),.isl true [],I (0),str ([])]:V)) (z0:=(Clause.mk [] 0 0 [] 0 0 (Condition.mk 0 [] 0 []) 0 [])) rfl rfl rfl (by decide) hm2 rfl)) ?_
 refine gm 49 (m2.map ak) rfl rfl (Om hm2 (iu (aR (.refl _) (aR (.refl _) (aR (.refl _) (aR (.refl _) (aR (.refl _) (aR (.refl _) (aR (.refl _) (aR (.refl _) (aR (.refl _) (aR (.nil _) (aR (.refl _) (aR (.refl _) fi)))))))))))))) ?_
 refine cq 8 [3,4] [.hs 49 0 [] 12 0 (m2.map ak).length,I (0)] 97 ?_
 obtain⟨y7,hy7,hy71,hy72⟩:=bJ h
 refine bO rfl ?_
 refine rf [0,3,4] [49] (PH a_1 rfl (0,m2) _ hy7 (fun r' e st hq=>by rw[hy71 r' e] at hq;exact hq) fun u7 hu=>?_)
 replace h:=hy72 u7 hu
 refine cq 5 [2] [.hs 1 0 [] 12 0 (u7.map ak).length] 34 ?_
 obtain rfl:=sI h
 exact b8 rfl ⟨_,fin (vs:=[.hs 1 0 [] 12 0 (u7.map ak).length]) rfl (eV (fZ rfl (dx rfl rfl)) dU) rfl (cu eN),eH⟩
theorem U4 {G:b7}:bZ G 46 CR:=gT 1 0 (aO U1 bv) cf Tryz.func46 (fun a r h=>Zb a r h)
def FR:Contract→List V:=oA aP
def FS (r:Contract):V×List V:=(kY r,[])
noncomputable def CV :=bi [false] FR FS fun x=>tM x
theorem sb {a_1:Contract}{r}(h:tM a_1=some r):CV.F (FR a_1)=some (FS r):=aJ (aK bb) h
noncomputable def aeS :=aH Tryz.f14
noncomputable def Va :=ce [(45,vY),(46,CR)]
def aeR (x:Contract)(r:Contract):St→Prop:=QF Va Tryz.f14 [false] (FR x) (FS r)
theorem Zf (a_1:Contract)(r:Contract)(h:tM a_1=some r):br Va Tryz.f14 [false] 0 (FR a_1) (FS r):=by
 show Run _ _ (aeR a_1 r) [.code aeS] _
 refine rI 13 [(0,aP a_1)] [] 1 ?_
 unfold tM at h
 refine ck 4 [1,2] [] [1,17] [] [.hp 1 0 [] 2 0 0,.hp 17 0 [] 2 0 0] [some ⟨0,2,[aP a_1]⟩,some ⟨0,2,[.agg [.isl true [],.isl true []]]⟩] 33 (by kernel_rfl) ?_
 refine gm 17 [.agg [.usl 1 (([]).map str),.usl 12 (([]).map ak)]] rfl rfl (aR (iu (aR (.nil _) (aR (.nil _) fi))) fi) ?_
 refine ck 4 [3] [] [33] [] [.hp 33 0 [] 2 0 0] [some ⟨0,2,[.agg [.isl true [],.isl true []]]⟩] 49 (by kernel_rfl) ?_
 refine gm 33 [.agg [.usl 1 (([]).map str),.usl 12 (([]).map ak)]] rfl rfl (aR (iu (aR (.nil _) (aR (.nil _) fi))) fi) ?_
 refine cq 5 [5] [.isl false (a_1.Parties.map str)] 81 ?_
 obtain⟨r2,hr2,h⟩:=bS h
 refine oq 97 (.hs 81 0 [] 1 0 (r2.map str).length) rfl (cP (Vm hr2)) ?_
 refine cq 1 [7] [.hp 33 0 [] 2 0 0] 113 ?_
 refine o0 129 rfl rfl (et rfl rfl (dG (path:=[]) (pl:=false) (e':=.agg [.usl 1 (r2.map str),.usl 12 (([]).map ak)]) (es2':=[.agg [.usl 1 (r2.map str),.usl 12 (([]).map ak)]]) rfl (fZ rfl (dx rfl rfl)) rfl rfl rfl aE rfl rfl rfl rfl rfl cM 2 rfl)) ?_
 refine cq 5 [9] [.isl false (a_1.Clauses.map au)] 161 ?_
 obtain⟨r3,hr3,h⟩:=bS h
 refine oq 177 (.hs 161 0 [] 12 0 (r3.map ak).length) rfl (cP (aeM hr3)) ?_
 refine cq 1 [11] [.hp 33 0 [] 2 0 1] 193 ?_
 refine o0 209 rfl rfl (et rfl rfl (dG (path:=[]) (pl:=false) (e':=.agg [.usl 1 (r2.map str),.usl 12 (r3.map ak)]) (es2':=[.agg [.usl 1 (r2.map str),.usl 12 (r3.map ak)]]) rfl (fZ rfl (dx rfl rfl)) rfl rfl rfl aE rfl rfl rfl rfl rfl cM 3 rfl)) ?_
 refine cq 4 [12] [.agg [.hs 33 3 [(0,0)] 1 0 (r2.map str).length,.hs 33 3 [(0,1)] 12 0 (r3.map ak).length]] 225 ?_
 refine o0 241 rfl rfl (et rfl rfl (dG (path:=[]) (pl:=false) (e':=.agg [.usl 1 (r2.map str),.usl 12 (r3.map ak)]) (es2':=[.agg [.usl 1 (r2.map str),.usl 12 (r3.map ak)]]) rfl (nQ (cC (jg (path:=[(0,0)]) rfl rfl (eI rfl rfl aE) rfl (kX (path:=[]) (i:=0) (k:=0) (e':=.agg [.dead,.usl 12 (r3.map ak)]) (es2':=[.agg [.dead,.usl 12 (r3.map ak)]]) aE rfl rfl rfl cM)) (cC (jg (path:=[(0,1)]) rfl rfl (eI rfl rfl aE) rfl (kX (path:=[]) (i:=0) (k:=1) (e':=.agg [.dead,.dead]) (es2':=[.agg [.dead,.dead]]) aE rfl rfl rfl cM)) nR))) rfl rfl rfl aE rfl rfl rfl rfl rfl cM 2 rfl)) ?_
 refine aq 1 ?_
 obtain rfl:=sI h
 exact b8 rfl ⟨_,fin (vs:=[.agg [.hs 17 2 [(0,0)] 1 0 (r2.map str).length,.hs 17 2 [(0,1)] 12 0 (r3.map ak).length]]) (Pb (vK rfl rfl rfl) Pc) (eV (nQ (cC (jg (path:=[(0,0)]) rfl rfl (eI rfl rfl aE) rfl (kX (path:=[]) (i:=0) (k:=0) (e':=.agg [.dead,.usl 12 (r3.map ak)]) (es2':=[.agg [.dead,.usl 12 (r3.map ak)]]) aE rfl rfl rfl cM)) (cC (jg (path:=[(0,1)]) rfl rfl (eI rfl rfl aE) rfl (kX (path:=[]) (i:=0) (k:=1) (e':=.agg [.dead,.dead]) (es2':=[.agg [.dead,.dead]]) aE rfl rfl rfl cM)) nR))) dU) rfl (cu eN),eH⟩
theorem Vb {G:b7}:bZ G 14 CV:=gT 1 0 (aO KF (aO U4 bv)) cf Tryz.func14 (fun a r h=>Zf a r h)
def FT:Duty→List V:=oA ah
def FU (r:Duty):V×List V:=(ah r,[])
noncomputable def CW :=bi [false] FT FU fun x=>xU x
theorem aeT {a_1:Duty}{r}(h:xU a_1=some r):CW.F (FT a_1)=some (FU r):=aJ (aK eh) h
noncomputable def aeV :=aH Tryz.f108
noncomputable def Vc :=ce []
def aeU (x:Duty)(r:Duty):St→Prop:=QF Vc Tryz.f108 [false] (FT x) (FU r)
theorem Zg (a_1:Duty)(r:Duty)(h:xU a_1=some r):br Vc Tryz.f108 [false] 0 (FT a_1) (FU r):=by
 show Run _ _ (aeU a_1 r) [.code aeV] _
 refine rI 17 [(0,ah a_1)] [] 1 ?_
 unfold xU at h
 refine ck 42 [2] [] [17] [] [.hp 17 0 [] 4 0 0] [some ⟨0,4,[ah a_1]⟩] 337 (by kernel_rfl) ?_
 obtain rfl:=sI h
 exact b8 rfl ⟨_,fin (vs:=[ah a_1]) (Pb (vK rfl rfl rfl) Pc) (eV (ba rfl) dU) rfl (cu eN),eH⟩
theorem Vd {G:b7}:bZ G 108 CW:=gT 1 0 bv cf Tryz.func108 (fun a r h=>Zg a r h)
def FV:(List Duty)→List V:=oA (gj ah)
def FW (r:(List Duty)):V×List V:=(.usl 4 (r.map ah),[])
noncomputable def CY :=bi [false] FV FW fun x=>CX x
theorem aeW {a_1:List Duty}{r}(h:CX a_1=some r):CY.F (FV a_1)=some (FW r):=aJ (aK (cn eh)) h
noncomputable def Vf :=aH Tryz.f57
noncomputable def M9 :=ce [(108,CW)]
def Ve (x:(List Duty))(r:(List Duty)):St→Prop:=QF M9 Tryz.f57 [false] (FV x) (FW r)
theorem PJ (a_1:List Duty):cj M9 0 (Ve a_1) (cL (cL (cR (cL (cR (cR Vf)))))) 0 (uI a_1) (fun u=>(sT 23 [(3,.hs 1 0 [] 4 0 (u.map ah).length)] [⟨0,4,u.map ah⟩] 2)) fun x3=>(sT 23 [(0,.isl false (a_1.map ah)),(3,.hs 1 0 [] 4 0 (x3.2.map ah).length),(4,I x3.1)] [⟨0,4,x3.2.map ah⟩] 2):=ef (AI a_1) fun {Q K} hK self ih x3 y h hr hn=>by
 unfold ol at h
 refine cq 5 [8,9] [I x3.1,.isl false (a_1.map ah)] 34 ?_
 refine oq 50 (I (len a_1)) rfl (bw rfl rfl rfl (bN rfl)) ?_
 refine cq 2 [11] [B (decide (x3.1<(len a_1)))] 66 ?_
 refine sq h ?_ ?_<;>intro h
 ·refine aq 1 ?_
  refine cq 7 [14,15,16,17] [.hs 1 0 [] 4 0 (x3.2.map ah).length,I x3.1,.isl false (a_1.map ah),I x3.1] 130 ?_
  obtain⟨e4,he4,h⟩:=bS h
  refine oq 146 (.iptr (ah e4) 0) rfl (al rfl rfl rfl (bo rfl rfl rfl rfl he4)) ?_
  refine cq 1 [19] [ah e4] 162 ?_
  obtain⟨r5,hr5,h⟩:=bS h
  refine oq 178 (ah r5) rfl (cP (aeT hr5)) ?_
  obtain⟨e6,he6,h⟩:=bS h
  refine oq 194 (.hp 1 0 [] 4 (0+Int.toNat x3.1) 0) rfl (al rfl rfl rfl (cp (f:=ah) (xs:=x3.2) rfl rfl rfl he6)) ?_
  refine o0 210 rfl rfl (et rfl rfl (dG (path:=[]) (pl:=true) (e':=ah r5) (es2':=(bM x3.2 x3.1 r5).map ah) rfl (ba rfl) rfl rfl rfl aE (bU (f:=ah) (xs:=x3.2) he6) rfl rfl rfl (gD (f:=ah) (xs:=x3.2) (y:=r5)) cM 0 rfl)) ?_
  try rw[←fK (f:=ah) (xs:=x3.2) (i:=x3.1) (z:=r5)]
  refine cq 7 [4] [I (ac (x3.1+1))] 258 ?_
  refine cY ?_
  exact rf [0,3,4] [1] (ih _ _ h hr hn :)
 ·refine aq 1 ?_
  exact rf [3] [1] (hn _ (an h) :) (hk:=hK)
theorem Zh (a_1:List Duty)(r:(List Duty))(h:CX a_1=some r):br M9 Tryz.f57 [false] 0 (FV a_1) (FW r):=by
 show Run _ _ (Ve a_1 r) [.code Vf] _
 refine rI 23 [(0,.isl false (a_1.map ah))] [] 1 ?_
 unfold CX at h
 refine cq 7 [5] [.isl false (a_1.map ah)] 33 ?_
 refine oq 49 (I (len a_1)) rfl (bw rfl rfl rfl (bN rfl)) ?_
 obtain⟨m2,hm2,h⟩:=bS h
 refine oq 65 (.hs 49 0 [] 4 0 (m2.map ah).length) rfl (lx rfl rfl (IW (f:=ah) rfl rfl rfl (by decide) hm2 rfl)) ?_
 refine cq 8 [3,4] [.hs 49 0 [] 4 0 (m2.map ah).length,I (0)] 97 ?_
 obtain⟨y7,hy7,hy71,hy72⟩:=bJ h
 refine bO rfl ?_
 refine rf [0,3,4] [49] (PJ a_1 rfl (0,m2) _ hy7 (fun r' e st hq=>by rw[hy71 r' e] at hq;exact hq) fun u7 hu=>?_)
 replace h:=hy72 u7 hu
 refine cq 5 [2] [.hs 1 0 [] 4 0 (u7.map ah).length] 34 ?_
 obtain rfl:=sI h
 exact b8 rfl ⟨_,fin (vs:=[.hs 1 0 [] 4 0 (u7.map ah).length]) rfl (eV (fZ rfl (dx rfl rfl)) dU) rfl (cu eN),eH⟩
theorem Vg {G:b7}:bZ G 57 CY:=gT 1 0 (aO Vd bv) cf Tryz.func57 (fun a r h=>Zh a r h)
def FX:(List Int)→List V:=oA (gj I)
def FY (r:(List Int)):V×List V:=(.usl 1 (r.map I),[])
noncomputable def C0 :=bi [false] FX FY fun x=>CZ x
theorem aeX {a_1:List Int}{r}(h:CZ a_1=some r):C0.F (FX a_1)=some (FY r):=aJ (aK (cn bc)) h
noncomputable def Vi :=aH Tryz.f58
noncomputable def Na :=ce []
def Vh (x:(List Int))(r:(List Int)):St→Prop:=QF Na Tryz.f58 [false] (FX x) (FY r)
theorem PK (a_1:List Int):cj Na 0 (Vh a_1) (cL (cL (cR (cL (cR (cR Vi)))))) 0 (uJ a_1) (fun u=>(sT 22 [(3,.hs 1 0 [] 1 0 (u.map I).length)] [⟨0,1,u.map I⟩] 2)) fun x3=>(sT 22 [(0,.isl false (a_1.map I)),(3,.hs 1 0 [] 1 0 (x3.2.map I).length),(4,I x3.1)] [⟨0,1,x3.2.map I⟩] 2):=ef (AJ a_1) fun {Q K} hK self ih x3 y h hr hn=>by
 unfold om at h
 refine cq 5 [8,9] [I x3.1,.isl false (a_1.map I)] 34 ?_
 refine oq 50 (I (len a_1)) rfl (bw rfl rfl rfl (bN rfl)) ?_
 refine cq 2 [11] [B (decide (x3.1<(len a_1)))] 66 ?_
 refine sq h ?_ ?_<;>intro h
 ·refine aq 1 ?_
  refine cq 7 [14,15,16,17] [.hs 1 0 [] 1 0 (x3.2.map I).length,I x3.1,.isl false (a_1.map I),I x3.1] 130 ?_
  obtain⟨e4,he4,h⟩:=bS h
  refine oq 146 (.iptr (I e4) 0) rfl (al rfl rfl rfl (bo rfl rfl rfl rfl he4)) ?_
  refine cq 1 [19] [I e4] 162 ?_
  obtain⟨e5,he5,h⟩:=bS h
  refine oq 178 (.hp 1 0 [] 1 (0+Int.toNat x3.1) 0) rfl (al rfl rfl rfl (cp (f:=I) (xs:=x3.2) rfl rfl rfl he5)) ?_
  refine o0 194 rfl rfl (et rfl rfl (dG (path:=[]) (pl:=true) (e':=I e4) (es2':=(bM x3.2 x3.1 e4).map I) rfl (ba rfl) rfl rfl rfl aE (bU (f:=I) (xs:=x3.2) he5) rfl rfl rfl (gD (f:=I) (xs:=x3.2) (y:=e4)) cM 0 rfl)) ?_
  try rw[←fK (f:=I) (xs:=x3.2) (i:=x3.1) (z:=e4)]
  refine cq 7 [4] [I (ac (x3.1+1))] 242 ?_
  refine cY ?_
  exact rf [0,3,4] [1] (ih _ _ h hr hn :)
 ·refine aq 1 ?_
  exact rf [3] [1] (hn _ (an h) :) (hk:=hK)
theorem Zi (a_1:List Int)(r:(List Int))(h:CZ a_1=some r):br Na Tryz.f58 [false] 0 (FX a_1) (FY r):=by
 show Run _ _ (Vh a_1 r) [.code Vi] _
 refine rI 22 [(0,.isl false (a_1.map I))] [] 1 ?_
 unfold CZ at h
 refine cq 7 [5] [.isl false (a_1.map I)] 33 ?_
 refine oq 49 (I (len a_1)) rfl (bw rfl rfl rfl (bN rfl)) ?_
 obtain⟨m2,hm2,h⟩:=bS h
 refine oq 65 (.hs 49 0 [] 1 0 (m2.map I).length) rfl (lx rfl rfl (IW (f:=I) rfl rfl rfl (by decide) hm2 rfl)) ?_
 refine cq 8 [3,4] [.hs 49 0 [] 1 0 (m2.map I).length,I (0)] 97 ?_
 obtain⟨y6,hy6,hy61,hy62⟩:=bJ h
 refine bO rfl ?_
 refine rf [0,3,4] [49] (PK a_1 rfl (0,m2) _ hy6 (fun r' e st hq=>by rw[hy61 r' e] at hq;exact hq) fun u6 hu=>?_)
 replace h:=hy62 u6 hu
 refine cq 5 [2] [.hs 1 0 [] 1 0 (u6.map I).length] 34 ?_
 obtain rfl:=sI h
 exact b8 rfl ⟨_,fin (vs:=[.hs 1 0 [] 1 0 (u6.map I).length]) rfl (eV (fZ rfl (dx rfl rfl)) dU) rfl (cu eN),eH⟩
theorem Vj {G:b7}:bZ G 58 C0:=gT 1 0 bv cf Tryz.func58 (fun a r h=>Zi a r h)
def FZ:State→List V:=oA bH
def F0 (r:State):V×List V:=(nJ r,[])
noncomputable def C1 :=bi [false] FZ F0 fun x=>tN x
theorem sd {a_1:State}{r}(h:tN a_1=some r):C1.F (FZ a_1)=some (F0 r):=aJ (aK cd) h
noncomputable def aeZ :=aH Tryz.f23
noncomputable def Vk :=ce [(45,vY),(57,CY),(58,C0)]
def aeY (x:State)(r:State):St→Prop:=QF Vk Tryz.f23 [false] (FZ x) (F0 r)
theorem Zj (a_1:State)(r:State)(h:tN a_1=some r):br Vk Tryz.f23 [false] 0 (FZ a_1) (F0 r):=by
 show Run _ _ (aeY a_1 r) [.code aeZ] _
 refine rI 23 [(0,bH a_1)] [] 1 ?_
 unfold tN at h
 refine ck 4 [1,2] [] [1,17] [] [.hp 1 0 [] 5 0 0,.hp 17 0 [] 5 0 0] [some ⟨0,5,[bH a_1]⟩,some ⟨0,5,[.agg [I (0),.isl true [],.isl true [],.isl true [],B false]]⟩] 33 (by kernel_rfl) ?_
 refine gm 17 [.agg [I (0),.usl 1 (([]).map str),.usl 4 (([]).map ah),.usl 1 (([]).map I),B false]] rfl rfl (aR (iu (aR (.refl _) (aR (.nil _) (aR (.nil _) (aR (.nil _) (aR (.refl _) fi)))))) fi) ?_
 refine ck 4 [3] [] [33] [] [.hp 33 0 [] 5 0 0] [some ⟨0,5,[.agg [I (0),.isl true [],.isl true [],.isl true [],B false]]⟩] 49 (by kernel_rfl) ?_
 refine gm 33 [.agg [I (0),.usl 1 (([]).map str),.usl 4 (([]).map ah),.usl 1 (([]).map I),B false]] rfl rfl (aR (iu (aR (.refl _) (aR (.nil _) (aR (.nil _) (aR (.nil _) (aR (.refl _) fi)))))) fi) ?_
 refine ck 12 [8] [] [33] [] [.isl false (a_1.Facts.map str)] [some ⟨1,5,[.agg [I a_1.Day,.usl 1 (([]).map str),.usl 4 (([]).map ah),.usl 1 (([]).map I),B false]]⟩] 145 (by kernel_rfl) ?_
 obtain⟨r2,hr2,h⟩:=bS h
 refine oq 161 (.hs 145 0 [] 1 0 (r2.map str).length) rfl (cP (Vm hr2)) ?_
 refine cq 1 [10] [.hp 33 0 [] 5 0 1] 177 ?_
 refine o0 193 rfl rfl (et rfl rfl (dG (path:=[]) (pl:=false) (e':=.agg [I a_1.Day,.usl 1 (r2.map str),.usl 4 (([]).map ah),.usl 1 (([]).map I),B false]) (es2':=[.agg [I a_1.Day,.usl 1 (r2.map str),.usl 4 (([]).map ah),.usl 1 (([]).map I),B false]]) rfl (fZ rfl (dx rfl rfl)) rfl rfl rfl aE rfl rfl rfl rfl rfl cM 2 rfl)) ?_
 refine cq 5 [12] [.isl false (a_1.Duties.map ah)] 225 ?_
 obtain⟨r3,hr3,h⟩:=bS h
 refine oq 241 (.hs 225 0 [] 4 0 (r3.map ah).length) rfl (cP (aeW hr3)) ?_
 refine cq 1 [14] [.hp 33 0 [] 5 0 2] 257 ?_
 refine o0 273 rfl rfl (et rfl rfl (dG (path:=[]) (pl:=false) (e':=.agg [I a_1.Day,.usl 1 (r2.map str),.usl 4 (r3.map ah),.usl 1 (([]).map I),B false]) (es2':=[.agg [I a_1.Day,.usl 1 (r2.map str),.usl 4 (r3.map ah),.usl 1 (([]).map I),B false]]) rfl (fZ rfl (dx rfl rfl)) rfl rfl rfl aE rfl rfl rfl rfl rfl cM 3 rfl)) ?_
 refine cq 5 [16] [.isl false (a_1.Balances.map I)] 305 ?_
 obtain⟨r4,hr4,h⟩:=bS h
 refine oq 321 (.hs 305 0 [] 1 0 (r4.map I).length) rfl (cP (aeX hr4)) ?_
 refine cq 1 [18] [.hp 33 0 [] 5 0 3] 337 ?_
 refine o0 353 rfl rfl (et rfl rfl (dG (path:=[]) (pl:=false) (e':=.agg [I a_1.Day,.usl 1 (r2.map str),.usl 4 (r3.map ah),.usl 1 (r4.map I),B false]) (es2':=[.agg [I a_1.Day,.usl 1 (r2.map str),.usl 4 (r3.map ah),.usl 1 (r4.map I),B false]]) rfl (fZ rfl (dx rfl rfl)) rfl rfl rfl aE rfl rfl rfl rfl rfl cM 4 rfl)) ?_
 refine ck 11 [22] [] [33] [] [.agg [I a_1.Day,.hs 33 4 [(0,1)] 1 0 (r2.map str).length,.hs 33 4 [(0,2)] 4 0 (r3.map ah).length,.hs 33 4 [(0,3)] 1 0 (r4.map I).length,B a_1.Over]] [some ⟨4,5,[.agg [I a_1.Day,.usl 1 (r2.map str),.usl 4 (r3.map ah),.usl 1 (r4.map I),B a_1.Over]]⟩] 433 (by kernel_rfl) ?_
 refine o0 449 rfl rfl (et rfl rfl (dG (path:=[]) (pl:=false) (e':=.agg [I a_1.Day,.usl 1 (r2.map str),.usl 4 (r3.map ah),.usl 1 (r4.map I),B a_1.Over]) (es2':=[.agg [I a_1.Day,.usl 1 (r2.map str),.usl 4 (r3.map ah),.usl 1 (r4.map I),B a_1.Over]]) rfl (nQ (cC (dB rfl) (cC (jg (path:=[(0,1)]) rfl rfl (eI rfl rfl aE) rfl (kX (path:=[]) (i:=0) (k:=1) (e':=.agg [I a_1.Day,.dead,.usl 4 (r3.map ah),.usl 1 (r4.map I),B a_1.Over]) (es2':=[.agg [I a_1.Day,.dead,.usl 4 (r3.map ah),.usl 1 (r4.map I),B a_1.Over]]) aE rfl rfl rfl cM)) (cC (jg (path:=[(0,2)]) rfl rfl (eI rfl rfl aE) rfl (kX (path:=[]) (i:=0) (k:=2) (e':=.agg [I a_1.Day,.dead,.dead,.usl 1 (r4.map I),B a_1.Over]) (es2':=[.agg [I a_1.Day,.dead,.dead,.usl 1 (r4.map I),B a_1.Over]]) aE rfl rfl rfl cM)) (cC (jg (path:=[(0,3)]) rfl rfl (eI rfl rfl aE) rfl (kX (path:=[]) (i:=0) (k:=3) (e':=.agg [I a_1.Day,.dead,.dead,.dead,B a_1.Over]) (es2':=[.agg [I a_1.Day,.dead,.dead,.dead,B a_1.Over]]) aE rfl rfl rfl cM)) (cC (dB rfl) nR)))))) rfl rfl rfl aE rfl rfl rfl rfl rfl cM 2 rfl)) ?_
 refine aq 1 ?_
 obtain rfl:=sI h
 exact b8 rfl ⟨_,fin (vs:=[.agg [I a_1.Day,.hs 17 2 [(0,1)] 1 0 (r2.map str).length,.hs 17 2 [(0,2)] 4 0 (r3.map ah).length,.hs 17 2 [(0,3)] 1 0 (r4.map I).length,B a_1.Over]]) (Pb (vK rfl rfl rfl) Pc) (eV (nQ (cC (dB rfl) (cC (jg (path:=[(0,1)]) rfl rfl (eI rfl rfl aE) rfl (kX (path:=[]) (i:=0) (k:=1) (e':=.agg [I a_1.Day,.dead,.usl 4 (r3.map ah),.usl 1 (r4.map I),B a_1.Over]) (es2':=[.agg [I a_1.Day,.dead,.usl 4 (r3.map ah),.usl 1 (r4.map I),B a_1.Over]]) aE rfl rfl rfl cM)) (cC (jg (path:=[(0,2)]) rfl rfl (eI rfl rfl aE) rfl (kX (path:=[]) (i:=0) (k:=2) (e':=.agg [I a_1.Day,.dead,.dead,.usl 1 (r4.map I),B a_1.Over]) (es2':=[.agg [I a_1.Day,.dead,.dead,.usl 1 (r4.map I),B a_1.Over]]) aE rfl rfl rfl cM)) (cC (jg (path:=[(0,3)]) rfl rfl (eI rfl rfl aE) rfl (kX (path:=[]) (i:=0) (k:=3) (e':=.agg [I a_1.Day,.dead,.dead,.dead,B a_1.Over]) (es2':=[.agg [I a_1.Day,.dead,.dead,.dead,B a_1.Over]]) aE rfl rfl rfl cM)) (cC (dB rfl) nR)))))) dU) rfl (cu eN),eH⟩
theorem Vl {G:b7}:bZ G 23 C1:=gT 1 0 (aO KF (aO Vg (aO Vj bv))) cf Tryz.func23 (fun a r h=>Zj a r h)
def qD:(Int×Int×Int)→List V:=cA I (cA I (oA I))
def qE (r:Bool):V×List V:=(B r,[])
noncomputable def fY :=bi [false,false,false] qD qE fun x=>eF x.1 x.2.1 x.2.2
theorem eG {x_1:Int}{a_2:Int}{b_3:Int}{r}(h:eF x_1 a_2 b_3=some r):fY.F (qD (x_1,a_2,b_3))=some (qE r):=aJ (aN bc (aN bc (aK bc))) h
noncomputable def BT :=aH Tryz.f89
noncomputable def uk :=ce []
def BS (x:Int×Int×Int)(r:Bool):St→Prop:=QF uk Tryz.f89 [false,false,false] (qD x) (qE r)
theorem LG (x_1:Int)(a_2:Int)(b_3:Int)(r:Bool)(h:eF x_1 a_2 b_3=some r):br uk Tryz.f89 [false,false,false] 0 (qD (x_1,a_2,b_3)) (qE r):=by
 show Run _ _ (BS (x_1,a_2,b_3) r) [.code BT] _
 refine rI 15 [(0,I x_1),(1,I a_2),(2,I b_3)] [] 1 ?_
 unfold eF at h
 refine cq 10 [10] [B (decide (x_1≥a_2))] 81 ?_
 obtain⟨u4,hu4,h⟩:=lJ h
 have j4:Run uk 0 (BS (x_1,a_2,b_3) r) (.code (cR (cR BT))::[]) (sT 15 [(6,B u4)] [] 1):=by
  obtain rfl:=sI h
  exact rP [B u4]
 replace h:=hu4
 clear hu4
 refine sp 10 h rfl ?_ ?_<;>intro h
 ·refine cq 6 [6] [B (decide (x_1≤b_3))] 161 ?_
  subst h
  exact rf [6] [] (j4 :)
 ·refine cq 6 [6] [B false] 161 ?_
  subst h
  exact rf [6] [] (j4 :)
theorem gE {G:b7}:bZ G 89 fY:=gT 3 0 bv cf Tryz.func89 (fun a r h=>LG a.1 a.2.1 a.2.2 r h)
def Hv:Int→List V:=oA (V.int .u8)
def Hw (r:Bool):V×List V:=(B r,[])
noncomputable def DH :=bi [false] Hv Hw fun x=>yu x
theorem afJ {b_1:Int}{r}(h:yu b_1=some r):DH.F (Hv b_1)=some (Hw r):=aJ (aK (Po (k:=.u8))) h
noncomputable def yx :=aH Tryz.f128
noncomputable def vg :=ce []
def yw (x:Int)(r:Bool):St→Prop:=QF vg Tryz.f128 [false] (Hv x) (Hw r)
theorem Z0 (b_1:Int)(r:Bool)(h:yu b_1=some r):br vg Tryz.f128 [false] 0 (Hv b_1) (Hw r):=by
 show Run _ _ (yw b_1 r) [.code yx] _
 refine rI 17 [(0,.int .u8 b_1)] [] 1 ?_
 unfold yu at h
 refine cq 9 [5] [B (decide (b_1≥97))] 65 ?_
 obtain⟨u2,hu2,h⟩:=lJ h
 have j2:Run vg 0 (yw b_1 r) (.code (cR (cR yx))::[]) (sT 17 [(2,B u2)] [] 1):=by
  obtain rfl:=sI h
  exact rP [B u2]
 replace h:=hu2
 clear hu2
 refine sp 5 h rfl ?_ ?_<;>intro h
 ·refine cq 4 [9] [B (decide (b_1≤122))] 129 ?_
  obtain⟨u3,hu3,h⟩:=lJ h
  have j3:Run vg 0 (yw b_1 r) (.code (cR (cR yx))::[]) (sT 17 [(2,B u3)] [] 1):=by
   subst h
   exact rf [2] [] (j2 :)
  replace h:=hu3
  clear hu3
  refine sp 9 h rfl ?_ ?_<;>intro h
  ·refine cq 9 [2] [B true] 257 ?_
   subst h
   exact rf [2] [] (j3 :)
  ·refine cq 3 [12] [B (decide (b_1≥48))] 177 ?_
   obtain⟨u4,hu4,h⟩:=lJ h
   have j4:Run vg 0 (yw b_1 r) (.code (cR (cR yx))::[]) (sT 17 [(2,B u4)] [] 1):=by
    subst h
    exact rf [2] [] (j3 :)
   replace h:=hu4
   clear hu4
   refine sp 12 h rfl ?_ ?_<;>intro h
   ·refine cq 6 [2] [B (decide (b_1≤57))] 257 ?_
    subst h
    exact rf [2] [] (j4 :)
   ·refine cq 6 [2] [B false] 257 ?_
    subst h
    exact rf [2] [] (j4 :)
 ·refine cq 7 [9,12] [B false,B (decide (b_1≥48))] 177 ?_
  obtain⟨u5,hu5,h⟩:=lJ h
  have j5:Run vg 0 (yw b_1 r) (.code (cR (cR yx))::[]) (sT 17 [(2,B u5)] [] 1):=by
   subst h
   exact rf [2] [] (j2 :)
  replace h:=hu5
  clear hu5
  refine sp 12 h rfl ?_ ?_<;>intro h
  ·refine cq 6 [2] [B (decide (b_1≤57))] 257 ?_
   subst h
   exact rf [2] [] (j5 :)
  ·refine cq 6 [2] [B false] 257 ?_
   subst h
   exact rf [2] [] (j5 :)
theorem WB {G:b7}:bZ G 128 DH:=gT 1 0 bv cf Tryz.func128 (fun a r h=>Z0 a r h)
def Hp:ae→List V:=oA str
def Hq (r:Bool):V×List V:=(B r,[])
noncomputable def pY :=bi [false] Hp Hq fun x=>sn x
theorem sr {s_1:ae}{r}(h:sn s_1=some r):pY.F (Hp s_1)=some (Hq r):=aJ (aK bQ) h
noncomputable def qJ :=aH Tryz.f80
noncomputable abbrev oE :=cR (cR (cR (cR qJ)))
noncomputable abbrev oG :=cR (cL (cR (cL (cR (cR (cR qJ))))))
noncomputable def kb :=ce [(89,fY),(128,DH)]
def iQ (x:ae)(r:Bool):St→Prop:=QF kb Tryz.f80 [false] (Hp x) (Hq r)
theorem Qd (s_1:ae):cj kb 0 (iQ s_1) (cL (cL (cR (cL (cR (cR qJ)))))) 0 (vc s_1) (fun u=>(sT 40 [(0,str s_1)] [] 1)) fun x4=>(sT 40 [(0,str s_1),(3,I x4)] [] 1):=ef (Bj s_1) fun {Q K} hK self ih x4 y h hr hn=>by
 unfold oH at h
 refine cq 8 [21] [B (decide (x4<(len s_1)))] 65 ?_
 refine sq h ?_ ?_<;>intro h
 ·refine aq 1 ?_
  refine cq 6 [24,25] [str s_1,I x4] 97 ?_
  obtain⟨c5,hc5,h⟩:=bS h
  refine oq 113 (.int .u8 (c5.toNat:Int)) rfl (oT rfl rfl (tx rfl rfl hc5)) ?_
  obtain⟨r6,hr6,h⟩:=bS h
  refine oq 129 (B r6) rfl (cP (afJ hr6)) ?_
  refine cq 2 [28] [B (!r6)] 145 ?_
  refine sq h ?_ ?_<;>intro h
  ·refine cq 4 [2] [B false] 161 ?_
   exact b8 rfl (hr _ (an h) _ (qp [B false]))
  ·refine aq 1 ?_
   refine cq 6 [3] [I (ac (x4+1))] 193 ?_
   refine cY ?_
   exact rf [0,3] [] (ih _ _ h hr hn :)
 ·refine aq 1 ?_
  exact rf [0] [] (hn _ (an h) :) (hk:=hK)
theorem ZW (s_1:ae)(r:Bool)(h:sn s_1=some r):br kb Tryz.f80 [false] 0 (Hp s_1) (Hq r):=by
 show Run _ _ (iQ s_1 r) [.code qJ] _
 refine rI 40 [(0,str s_1)] [] 1 ?_
 unfold sn at h
 refine cq 9 [5] [I (len s_1)] 49 ?_
 obtain⟨r2,hr2,h⟩:=bS h
 refine oq 65 (B r2) rfl (cP (eG hr2)) ?_
 refine cq 2 [8] [B (!r2)] 97 ?_
 obtain⟨y3,hy3,hy31,hy32⟩:=bJ h
 have j3:∀u3,y3=.inr u3→Run kb 0 (iQ s_1 r) (.code (cR (cL (cR qJ)))::.code (cR (cR qJ))::[]) (sT 40 [(0,str s_1),(17,B u3)] [] 1):=by
  intro u3 hu
  replace h:=hy32 u3 hu
  refine sq h ?_ ?_<;>intro h
  ·refine cq 4 [2] [B false] 17 ?_
   obtain rfl:=sI h
   exact rP [B false]
  ·refine aq 1 ?_
   refine cq 6 [3] [I (0)] 17 ?_
   obtain⟨y7,hy7,hy71,hy72⟩:=bJ h
   refine bO rfl ?_
   refine rf [0,3] [] (Qd s_1 rfl 0 _ hy7 (fun r' e st hq=>by rw[hy71 r' e] at hq;exact hq) fun u7 hu=>?_)
   replace h:=hy72 u7 hu
   refine cq 12 [29,30] [str s_1,B (s_1==([116,114,117,101]:ae))] 49 ?_
   obtain⟨u8,hu8,h⟩:=lJ h
   have j8:Run kb 0 (iQ s_1 r) (.code oG::.blk 2::.code oE::[]) (sT 40 [(30,B u8)] [] 1):=by
    refine sq h ?_ ?_<;>intro h
    ·refine cq 4 [2] [B false] 17 ?_
     obtain rfl:=sI h
     exact rP [B false]
    ·refine aq 1 ?_
     refine cq 5 [2] [B true] 17 ?_
     obtain rfl:=sI h
     exact rP [B true]
   replace h:=hu8
   clear hu8
   refine tG h rfl rfl ?_ ?_<;>intro h
   ·refine aq 1 ?_
    subst h
    exact rf [30] [] (j8 :)
   ·refine cq 5 [30] [B (s_1==([102,114,111,109]:ae))] 81 ?_
    obtain⟨u9,hu9,h⟩:=lJ h
    have j9:Run kb 0 (iQ s_1 r) (.code oG::.blk 2::.code oE::[]) (sT 40 [(30,B u9)] [] 1):=by
     subst h
     exact rf [30] [] (j8 :)
    replace h:=hu9
    clear hu9
    refine tG h rfl rfl ?_ ?_<;>intro h
    ·refine aq 1 ?_
     subst h
     exact rf [30] [] (j9 :)
    ·refine cq 5 [30] [B (s_1==([110,111,116]:ae))] 113 ?_
     obtain⟨u10,hu10,h⟩:=lJ h
     have j10:Run kb 0 (iQ s_1 r) (.code oG::.blk 2::.code oE::[]) (sT 40 [(30,B u10)] [] 1):=by
      subst h
      exact rf [30] [] (j9 :)
     replace h:=hu10
     clear hu10
     refine tG h rfl rfl ?_ ?_<;>intro h
     ·refine aq 1 ?_
      subst h
      exact rf [30] [] (j10 :)
     ·refine cq 5 [30] [B (s_1==([97,110,100]:ae))] 145 ?_
      obtain⟨u11,hu11,h⟩:=lJ h
      have j11:Run kb 0 (iQ s_1 r) (.code oG::.blk 2::.code oE::[]) (sT 40 [(30,B u11)] [] 1):=by
       subst h
       exact rf [30] [] (j10 :)
      replace h:=hu11
      clear hu11
      refine tG h rfl rfl ?_ ?_<;>intro h
      ·refine aq 1 ?_
       subst h
       exact rf [30] [] (j11 :)
      ·refine cq 5 [30] [B (s_1==([111,114]:ae))] 177 ?_
       obtain⟨u12,hu12,h⟩:=lJ h
       have j12:Run kb 0 (iQ s_1 r) (.code oG::.blk 2::.code oE::[]) (sT 40 [(30,B u12)] [] 1):=by
        subst h
        exact rf [30] [] (j11 :)
       replace h:=hu12
       clear hu12
       refine tG h rfl rfl ?_ ?_<;>intro h
       ·refine aq 1 ?_
        subst h
        exact rf [30] [] (j12 :)
       ·refine cq 5 [30] [B (s_1==([98,111,116,104]:ae))] 209 ?_
        obtain⟨u13,hu13,h⟩:=lJ h
        have j13:Run kb 0 (iQ s_1 r) (.code oG::.blk 2::.code oE::[]) (sT 40 [(30,B u13)] [] 1):=by
         subst h
         exact rf [30] [] (j12 :)
        replace h:=hu13
        clear hu13
        refine tG h rfl rfl ?_ ?_<;>intro h
        ·refine aq 1 ?_
         subst h
         exact rf [30] [] (j13 :)
        ·refine cq 5 [30] [B (s_1==([101,105,116,104,101,114]:ae))] 241 ?_
         obtain⟨u14,hu14,h⟩:=lJ h
         have j14:Run kb 0 (iQ s_1 r) (.code oG::.blk 2::.code oE::[]) (sT 40 [(30,B u14)] [] 1):=by
          subst h
          exact rf [30] [] (j13 :)
         replace h:=hu14
         clear hu14
         refine tG h rfl rfl ?_ ?_<;>intro h
         ·refine aq 1 ?_
          subst h
          exact rf [30] [] (j14 :)
         ·refine cq 5 [30] [B (s_1==([105,116]:ae))] 273 ?_
          obtain⟨u15,hu15,h⟩:=lJ h
          have j15:Run kb 0 (iQ s_1 r) (.code oG::.blk 2::.code oE::[]) (sT 40 [(30,B u15)] [] 1):=by
           subst h
           exact rf [30] [] (j14 :)
          replace h:=hu15
          clear hu15
          refine tG h rfl rfl ?_ ?_<;>intro h
          ·refine aq 1 ?_
           subst h
           exact rf [30] [] (j15 :)
          ·refine cq 4 [30] [B (s_1==([105,110]:ae))] 305 ?_
           subst h
           exact rf [30] [] (j15 :)
 have r3:∀r',y3=.inl r'→∀st,iQ s_1 r' st→(iQ s_1 r) st:=fun r' e st hq=>by rw[hy31 r' e] at hq;exact hq
 replace h:=hy3
 refine sp 8 h rfl ?_ ?_<;>intro h
 ·refine cq 10 [17] [B true] 241 ?_
  exact rf [0,17] [] (j3 _ (an h) :)
 ·refine cq 1 [9] [str s_1] 113 ?_
  obtain⟨c16,hc16,h⟩:=bS h
  refine oy 129 (.int .u8 (c16.toNat:Int)) rfl (oT rfl rfl (tx rfl rfl hc16)) ?_
  refine cq 3 [13] [B (decide ((c16.toNat:Int)<97))] 177 ?_
  obtain⟨y17,hy17,hy171,hy172⟩:=bL h
  have j17:∀u17,y17=.inr u17→Run kb 0 (iQ s_1 r) (.code (cR (cL (cR qJ)))::.code (cR (cR qJ))::[]) (sT 40 [(0,str s_1),(17,B u17)] [] 1):=by
   intro u17 hu
   replace h:=hy172 u17 hu
   exact rf [0,17] [] (j3 _ (an h) :)
  have r17:∀r',y17=.inl r'→∀st,iQ s_1 r' st→(iQ s_1 r) st:=fun r' e st hq=>r3 r' (hy171 r' e) st hq
  replace h:=hy17
  refine sp 13 h rfl ?_ ?_<;>intro h
  ·refine cq 5 [17] [B true] 241 ?_
   exact rf [0,17] [] (j17 _ (an h) :)
  ·refine cq 1 [14] [str s_1] 193 ?_
   obtain⟨c18,hc18,h⟩:=bS h
   refine oy 209 (.int .u8 (c18.toNat:Int)) rfl (oT rfl rfl (tx rfl rfl hc18)) ?_
   refine cq 3 [17] [B (decide ((c18.toNat:Int)>122))] 241 ?_
   exact rf [0,17] [] (j17 _ (an h) :)
theorem tf {G:b7}:bZ G 80 pY:=gT 1 0 (aO gE (aO WB bv)) cf Tryz.func80 (fun a r h=>ZW a r h)
def Hn:((List ae)×ae)→List V:=cA (gj str) (oA str)
def Ho (r:Bool):V×List V:=(B r,[])
noncomputable def wi :=bi [false,false] Hn Ho fun x=>wh x.1 x.2
theorem NE {ay:List ae}{fq:ae}{r}(h:wh ay fq=some r):wi.F (Hn (ay,fq))=some (Ho r):=aJ (aN (cn bQ) (aK bQ)) h
noncomputable def Ww :=aH Tryz.f123
noncomputable def ND :=ce []
def Wv (x:(List ae)×ae)(r:Bool):St→Prop:=QF ND Tryz.f123 [false,false] (Hn x) (Ho r)
theorem Qc (ay:List ae)(fq:ae):cj ND 0 (Wv (ay,fq)) (cL (cL (cR (cL (cR Ww))))) 0 (vb ay fq) (fun u=>(sT 18 [] [] 1)) fun x3=>(sT 18 [(0,.isl false (ay.map str)),(1,str fq),(5,I x3)] [] 1):=ef (Bi ay fq) fun {Q K} hK self ih x3 y h hr hn=>by
 unfold oD at h
 refine cq 5 [6,7] [I x3,.isl false (ay.map str)] 33 ?_
 refine oq 49 (I (len ay)) rfl (bw rfl rfl rfl (bN rfl)) ?_
 refine cq 2 [9] [B (decide (x3<(len ay)))] 65 ?_
 refine sq h ?_ ?_<;>intro h
 ·refine aq 1 ?_
  refine cq 6 [12,13] [.isl false (ay.map str),I x3] 97 ?_
  obtain⟨e4,he4,h⟩:=bS h
  refine oq 113 (.iptr (str e4) 0) rfl (al rfl rfl rfl (bo rfl rfl rfl rfl he4)) ?_
  refine cq 4 [17] [B (e4==fq)] 161 ?_
  refine sq h ?_ ?_<;>intro h
  ·refine cq 4 [4] [B true] 177 ?_
   exact b8 rfl (hr _ (an h) _ (qp [B true]))
  ·refine aq 1 ?_
   refine cq 6 [5] [I (ac (x3+1))] 209 ?_
   refine cY ?_
   exact rf [0,1,5] [] (ih _ _ h hr hn :)
 ·refine aq 1 ?_
  exact rf [] [] (hn _ (an h) :) (hk:=hK)
theorem ZV (ay:List ae)(fq:ae)(r:Bool)(h:wh ay fq=some r):br ND Tryz.f123 [false,false] 0 (Hn (ay,fq)) (Ho r):=by
 show Run _ _ (Wv (ay,fq) r) [.code Ww] _
 refine rI 18 [(0,.isl false (ay.map str)),(1,str fq)] [] 1 ?_
 unfold wh at h
 refine cq 10 [5] [I (0)] 33 ?_
 obtain⟨y5,hy5,hy51,hy52⟩:=bJ h
 refine bO rfl ?_
 refine rf [0,1,5] [] (Qc ay fq rfl 0 _ hy5 (fun r' e st hq=>by rw[hy51 r' e] at hq;exact hq) fun u5 hu=>?_)
 replace h:=hy52 u5 hu
 refine cq 4 [4] [B false] 17 ?_
 obtain rfl:=sI h
 exact rP [B false]
theorem KH {G:b7}:bZ G 123 wi:=gT 2 0 bv cf Tryz.func123 (fun a r h=>ZV a.1 a.2 r h)
def HL:Contract→List V:=oA aP
def HN (r:Bool):V×List V:=(B r,[])
noncomputable def DQ :=bi [false] HL HN fun x=>yC x
theorem afN {c_1:Contract}{r}(h:yC c_1=some r):DQ.F (HL c_1)=some (HN r):=aJ (aK bb) h
noncomputable def yD :=aH Tryz.f90
noncomputable def HM :=ce [(80,pY),(123,wi),(89,fY)]
def NP (x:Contract)(r:Bool):St→Prop:=QF HM Tryz.f90 [false] (HL x) (HN r)
theorem Ql (c_1:Contract):cj HM 0 (NP c_1) (cL (cL (cR (cL (cR yD))))) 0 (vm c_1) (fun u=>(sT 34 [(1,.hp 1 0 [] 2 0 0)] [⟨0,2,[aa c_1]⟩] 2)) fun x2=>(sT 34 [(1,.hp 1 0 [] 2 0 0),(3,I x2)] [⟨0,2,[aa c_1]⟩] 2):=ef (Br c_1) fun {Q K} hK self ih x2 y h hr hn=>by
 unfold mf at h
 refine cq 6 [4,6] [I x2,.isl false (c_1.Parties.map str)] 50 ?_
 refine oq 66 (I (len c_1.Parties)) rfl (bw rfl rfl rfl (bN rfl)) ?_
 refine cq 2 [8] [B (decide (x2<(len c_1.Parties)))] 82 ?_
 refine sq h ?_ ?_<;>intro h
 ·refine aq 1 ?_
  refine aq 3 ?_
  refine eb [0,1,0,7,15,31,63,127,255,511,255,2047,255,4351,255,28927,61695,131071,262143] rfl (by decide +kernel) ?_
  refine dq [1] [] (.hp 1 0 [] 2 0 0) rfl (az rfl rfl rfl) ?_
  refine dq [1] [] (.isl false (c_1.Parties.map str)) rfl (aX rfl rfl) ?_
  refine dk 1 [13] [I x2] ?_
  obtain⟨e3,he3,h⟩:=bS h
  refine dq [] [] (.iptr (str e3) 0) rfl (al rfl rfl rfl (bo rfl rfl rfl rfl he3)) ?_
  refine dq [] [] (str e3) rfl (aX rfl rfl) ?_
  obtain⟨r4,hr4,h⟩:=bS h
  refine dq [] [] (B r4) rfl (cP (sr hr4)) ?_ (d3 rfl rfl rfl rfl (bg (bT rfl) cX) (sr hr4) (.inr rfl) rfl)
  refine dk 2 [18,17] [B (!r4),B (!r4)] ?_
  obtain⟨y5,hy5,hy51,hy52⟩:=bL h
  have j5:∀u5,y5=.inr u5→Run HM 0 Q (.code (cR (cL (cL (cR (cL (cL (cR (cL (cR yD)))))))))::.blk 1::.code (cR (cR (cL (cL (cR (cL (cR yD)))))))::.lp (cL (cL (cR (cL (cR yD)))))::.blk 0::K) (sT 34 [(1,.hp 1 0 [] 2 0 0),(3,I x2),(29,B u5)] [⟨0,2,[aa c_1]⟩] 2):=by
   intro u5 hu
   replace h:=hy52 u5 hu
   refine sq h ?_ ?_<;>intro h
   ·refine cq 4 [2] [B false] 18 ?_
    exact b8 rfl (hr _ (an h) _ (qp [B false]))
   ·refine aq 1 ?_
    refine cq 6 [3] [I (ac (x2+1))] 50 ?_
    refine cY ?_
    exact rf [1,3] [1] (ih _ _ h hr hn :)
  have r5:∀r',y5=.inl r'→∀st,NP c_1 r' st→Q st:=fun r' e st hq=>hr r' (hy51 r' e) st hq
  replace h:=hy5
  refine sp 18 h rfl ?_ ?_<;>intro h
  ·refine dk 11 [29,28,27,26,25,24,23,22,21,20,19] [B true,.und,.und,.und,.und,.und,.und,.und,.und,.und,.und] ?_
   refine de 386 rfl rfl ?_
   exact rf [1,3,29] [1] (j5 _ (an h) :)
  ·refine dy [1] [] (.hp 1 0 [] 2 0 0) rfl (az rfl rfl rfl) ?_
   refine dy [1] [] (.isl false (c_1.Parties.map str)) rfl (aX rfl rfl) ?_
   refine dk 1 [21] [I x2] ?_
   obtain⟨s6,hs6,h⟩:=bS h
   refine dy [] [] (.isl false (s6.map str)) rfl (iD rfl rfl rfl rfl (zu rfl rfl (fun y=>(mF y).1) rfl rfl hs6)) ?_
   refine dy [1] [] (.hp 1 0 [] 2 0 0) rfl (az rfl rfl rfl) ?_
   refine dy [1] [] (.isl false (c_1.Parties.map str)) rfl (aX rfl rfl) ?_
   refine dk 1 [25] [I x2] ?_
   obtain⟨e7,he7,h⟩:=bS h
   refine dy [] [] (.iptr (str e7) 0) rfl (al rfl rfl rfl (bo rfl rfl rfl rfl he7)) ?_
   refine dy [] [] (str e7) rfl (aX rfl rfl) ?_
   obtain⟨r8,hr8,h⟩:=bS h
   refine dy [] [] (B r8) rfl (cP (NE hr8)) ?_ (d3 rfl rfl rfl rfl (bg (bT rfl) (bg (bT rfl) cX)) (NE hr8) (.inr rfl) rfl)
   refine dk 1 [29] [B r8] ?_
   refine de 386 rfl rfl ?_
   exact rf [1,3,29] [1] (j5 _ (an h) :)
 ·refine aq 1 ?_
  exact rf [1] [1] (hn _ (an h) :) (hk:=hK)
theorem Z8 (c_1:Contract)(r:Bool)(h:yC c_1=some r):br HM Tryz.f90 [false] 0 (HL c_1) (HN r):=by
 show Run _ _ (NP c_1 r) [.code yD] _
 refine rI 34 [(0,aa c_1)] [] 1 ?_
 unfold yC at h
 refine ck 11 [1,3] [] [1] [] [.hp 1 0 [] 2 0 0,I (0)] [some ⟨0,2,[aa c_1]⟩] 49 (by kernel_rfl) ?_
 obtain⟨y9,hy9,hy91,hy92⟩:=bJ h
 refine bO rfl ?_
 refine rf [1,3] [1] (Ql c_1 rfl 0 _ hy9 (fun r' e st hq=>by rw[hy91 r' e] at hq;exact hq) fun u9 hu=>?_)
 replace h:=hy92 u9 hu
 refine cq 4 [31] [.isl false (c_1.Parties.map str)] 34 ?_
 refine oq 50 (I (len c_1.Parties)) rfl (bw rfl rfl rfl (bN rfl)) ?_
 obtain⟨r10,hr10,h⟩:=bS h
 refine oq 66 (B r10) rfl (cP (eG hr10)) ?_
 refine cq 2 [2] [B r10] 82 ?_
 obtain rfl:=sI h
 exact rP [B r10]
theorem WQ {G:b7}:bZ G 90 DQ:=gT 1 0 (aO tf (aO KH (aO gE bv))) cf Tryz.func90 (fun a r h=>Z8 a r h)
def HC:(Contract×ae)→List V:=cA aP (oA str)
def HD (r:Int):V×List V:=(I r,[])
noncomputable def wm :=bi [false,false] HC HD fun x=>wl x.1 x.2
theorem NN {c_1:Contract}{fD:ae}{r}(h:wl c_1 fD=some r):wm.F (HC (c_1,fD))=some (HD r):=aJ (aN bb (aK bQ)) h
noncomputable def WL :=aH Tryz.f91
noncomputable def NM :=ce []
def WK (x:Contract×ae)(r:Int):St→Prop:=QF NM Tryz.f91 [false,false] (HC x) (HD r)
theorem Qi (c_1:Contract)(fD:ae):cj NM 0 (WK (c_1,fD)) (cL (cL (cR (cL (cR WL))))) 0 (vk c_1 fD) (fun u=>(sT 22 [] [] 1)) fun x3=>(sT 22 [(1,str fD),(2,.hp 1 0 [] 2 0 0),(5,I x3)] [⟨0,2,[aa c_1]⟩] 2):=ef (Bo c_1 fD) fun {Q K} hK self ih x3 y h hr hn=>by
 unfold oK at h
 refine cq 6 [6,8] [I x3,.isl false (c_1.Clauses.map au)] 50 ?_
 refine oq 66 (I (len c_1.Clauses)) rfl (bw rfl rfl rfl (bN rfl)) ?_
 refine cq 2 [10] [B (decide (x3<(len c_1.Clauses)))] 82 ?_
 refine sq h ?_ ?_<;>intro h
 ·refine aq 1 ?_
  refine cq 7 [14,15] [.isl false (c_1.Clauses.map au),I x3] 130 ?_
  obtain⟨e4,he4,h⟩:=bS h
  refine oq 146 (.iptr (aB e4) 0) rfl (al rfl rfl rfl (bo rfl rfl rfl rfl he4)) ?_
  refine cq 5 [20] [B (e4.Id==fD)] 210 ?_
  refine sq h ?_ ?_<;>intro h
  ·refine cq 5 [4] [I x3] 242 ?_
   exact b8 rfl (hr _ (an h) _ (qp [I x3]))
  ·refine aq 1 ?_
   refine cq 6 [5] [I (ac (x3+1))] 258 ?_
   refine cY ?_
   exact rf [1,2,5] [1] (ih _ _ h hr hn :)
 ·refine aq 1 ?_
  exact rf [] [] (hn _ (an h) :) (hk:=hK)
theorem Z5 (c_1:Contract)(fD:ae)(r:Int)(h:wl c_1 fD=some r):br NM Tryz.f91 [false,false] 0 (HC (c_1,fD)) (HD r):=by
 show Run _ _ (WK (c_1,fD) r) [.code WL] _
 refine rI 22 [(0,aa c_1),(1,str fD)] [] 1 ?_
 unfold wl at h
 refine ck 11 [2,5] [] [1] [] [.hp 1 0 [] 2 0 0,I (0)] [some ⟨0,2,[aa c_1]⟩] 49 (by kernel_rfl) ?_
 obtain⟨y5,hy5,hy51,hy52⟩:=bJ h
 refine bO rfl ?_
 refine rf [1,2,5] [1] (Qi c_1 fD rfl 0 _ hy5 (fun r' e st hq=>by rw[hy51 r' e] at hq;exact hq) fun u5 hu=>?_)
 replace h:=hy52 u5 hu
 refine cq 4 [4] [I (-1)] 17 ?_
 obtain rfl:=sI h
 exact rP [I (-1)]
theorem KJ {G:b7}:bZ G 91 wm:=gT 2 0 bv cf Tryz.func91 (fun a r h=>Z5 a.1 a.2 r h)
def Ha:Int→List V:=oA I
def Hc (r:Bool):V×List V:=(B r,[])
noncomputable def sj :=bi [false] Ha Hc fun x=>si x
theorem Hb {ip:Int}{r}(h:si ip=some r):sj.F (Ha ip)=some (Hc r):=aJ (aK bc) h
noncomputable def afE :=aH Tryz.f76
noncomputable def Wm :=ce [(89,fY)]
def afD (x:Int)(r:Bool):St→Prop:=QF Wm Tryz.f76 [false] (Ha x) (Hc r)
theorem ZO (ip:Int)(r:Bool)(h:si ip=some r):br Wm Tryz.f76 [false] 0 (Ha ip) (Hc r):=by
 show Run _ _ (afD ip r) [.code afE] _
 refine rI 5 [(0,I ip)] [] 1 ?_
 unfold si at h
 refine cq 7 [3] [I ip] 33 ?_
 obtain⟨r2,hr2,h⟩:=bS h
 refine oq 49 (B r2) rfl (cP (eG hr2)) ?_
 refine cq 2 [2] [B r2] 65 ?_
 obtain rfl:=sI h
 exact rP [B r2]
theorem yh {G:b7}:bZ G 76 sj:=gT 1 0 (aO gE bv) cf Tryz.func76 (fun a r h=>ZO a r h)
def Hi:Condition→List V:=oA bK
def Hj (r:Bool):V×List V:=(B r,[])
noncomputable def DC :=bi [false] Hi Hj fun x=>DB x
theorem afG {c_1:Condition}{r}(h:DB c_1=some r):DC.F (Hi c_1)=some (Hj r):=aJ (aK dP) h
noncomputable def pf :=aH Tryz.f190
noncomputable abbrev ka :=cR (cR (cR pf))
noncomputable abbrev QR :=cR (cL (cR (cR (cR (cL (cR (cL (cR (cR pf)))))))))
noncomputable abbrev QS :=cR (cL (cR (cR (cR (cR (cR (cL (cR (cL (cR (cR pf)))))))))))
noncomputable abbrev QT :=cR (cL (cR (cR (cR (cR (cR (cR (cR (cL (cR (cL (cR (cR pf)))))))))))))
noncomputable abbrev QU :=cR (cL (cR (cR (cR (cR (cR (cR (cR (cR (cR (cL (cR (cL (cR (cR pf)))))))))))))))
noncomputable def jZ :=ce [(80,pY),(76,sj)]
def hP (x:Condition)(r:Bool):St→Prop:=QF jZ Tryz.f190 [false] (Hi x) (Hj r)
theorem ZR (c_1:Condition)(r:Bool)(h:DB c_1=some r):br jZ Tryz.f190 [false] 0 (Hi c_1) (Hj r):=by
 show Run _ _ (hP c_1 r) [.code pf] _
 refine rI 80 [(0,ar c_1)] [] 1 ?_
 unfold DB at h
 refine ck 9 [1,5] [] [1] [] [.hp 1 0 [] 4 0 0,.isl false (c_1.Parts.map aI)] [some ⟨0,4,[ar c_1]⟩] 65 (by kernel_rfl) ?_
 refine oq 81 (I (len c_1.Parts)) rfl (bw rfl rfl rfl (bN rfl)) ?_
 refine cq 14 [3,8,9] [I (len c_1.Parts),I c_1.Op,B (c_1.Op==1)] 161 ?_
 refine sq h ?_ ?_<;>intro h
 ·refine cq 5 [13] [B ((len c_1.Parts)==0)] 209 ?_
  obtain⟨u2,hu2,h⟩:=lJ h
  have j2:Run jZ 0 (hP c_1 r) (.code (cR (cL (cR (cL (cR (cL (cR (cR pf))))))))::.blk 0::.code ka::[]) (sT 80 [(2,B u2)] [] 1):=by
   obtain rfl:=sI h
   exact rP [B u2]
  replace h:=hu2
  clear hu2
  refine sp 13 h rfl ?_ ?_<;>intro h
  ·refine cq 5 [18] [B (c_1.Name==([]:ae))] 289 ?_
   obtain⟨u3,hu3,h⟩:=lJ h
   have j3:Run jZ 0 (hP c_1 r) (.code (cR (cL (cR (cL (cR (cL (cR (cR pf))))))))::.blk 0::.code ka::[]) (sT 80 [(2,B u3)] [] 1):=by
    subst h
    exact rf [2] [] (j2 :)
   replace h:=hu3
   clear hu3
   refine sp 18 h rfl ?_ ?_<;>intro h
   ·refine cq 6 [2] [B (c_1.Day==0)] 369 ?_
    subst h
    exact rf [2] [] (j3 :)
   ·refine cq 6 [2] [B false] 369 ?_
    subst h
    exact rf [2] [] (j3 :)
  ·refine cq 11 [2] [B false] 369 ?_
   subst h
   exact rf [2] [] (j2 :)
 ·refine cq 5 [23] [B (c_1.Op==2)] 193 ?_
  refine sq h ?_ ?_<;>intro h
  ·refine cq 5 [27] [B ((len c_1.Parts)==0)] 241 ?_
   obtain⟨y4,hy4,hy41,hy42⟩:=bJ h
   have j4:∀u4,y4=.inr u4→Run jZ 0 (hP c_1 r) (.code QR::.blk 0::.code ka::[]) (sT 80 [(2,B u4)] [] 1):=by
    intro u4 hu
    replace h:=hy42 u4 hu
    obtain rfl:=sI h
    exact rP [B u4]
   have r4:∀r',y4=.inl r'→∀st,hP c_1 r' st→(hP c_1 r) st:=fun r' e st hq=>by rw[hy41 r' e] at hq;exact hq
   replace h:=hy4
   refine sp 27 h rfl ?_ ?_<;>intro h
   ·refine cq 2 [29] [str c_1.Name] 273 ?_
    obtain⟨r5,hr5,h⟩:=bS h
    refine oy 289 (B r5) rfl (cP (sr hr5)) ?_
    refine cq 2 [32] [B r5] 321 ?_
    obtain⟨u6,hu6,h⟩:=lJ h
    have j6:Run jZ 0 (hP c_1 r) (.code QR::.blk 0::.code ka::[]) (sT 80 [(2,B u6)] [] 1):=by
     exact rf [2] [] (j4 _ (an h) :)
    replace h:=hu6
    clear hu6
    refine sp 32 h rfl ?_ ?_<;>intro h
    ·refine cq 6 [2] [B (c_1.Day==0)] 401 ?_
     subst h
     exact rf [2] [] (j6 :)
    ·refine cq 6 [2] [B false] 401 ?_
     subst h
     exact rf [2] [] (j6 :)
   ·refine cq 11 [2] [B false] 401 ?_
    exact rf [2] [] (j4 _ (an h) :)
  ·refine cq 5 [37] [B (c_1.Op==3)] 225 ?_
   refine sq h ?_ ?_<;>intro h
   ·refine cq 5 [41] [B ((len c_1.Parts)==0)] 273 ?_
    obtain⟨y7,hy7,hy71,hy72⟩:=bJ h
    have j7:∀u7,y7=.inr u7→Run jZ 0 (hP c_1 r) (.code QS::.blk 0::.code ka::[]) (sT 80 [(2,B u7)] [] 1):=by
     intro u7 hu
     replace h:=hy72 u7 hu
     obtain rfl:=sI h
     exact rP [B u7]
    have r7:∀r',y7=.inl r'→∀st,hP c_1 r' st→(hP c_1 r) st:=fun r' e st hq=>by rw[hy71 r' e] at hq;exact hq
    replace h:=hy7
    refine sp 41 h rfl ?_ ?_<;>intro h
    ·refine cq 5 [46] [B (c_1.Name==([]:ae))] 353 ?_
     obtain⟨y8,hy8,hy81,hy82⟩:=bL h
     have j8:∀u8,y8=.inr u8→Run jZ 0 (hP c_1 r) (.code QS::.blk 0::.code ka::[]) (sT 80 [(2,B u8)] [] 1):=by
      intro u8 hu
      replace h:=hy82 u8 hu
      exact rf [2] [] (j7 _ (an h) :)
     have r8:∀r',y8=.inl r'→∀st,hP c_1 r' st→(hP c_1 r) st:=fun r' e st hq=>r7 r' (hy81 r' e) st hq
     replace h:=hy8
     refine sp 46 h rfl ?_ ?_<;>intro h
     ·refine cq 2 [48] [I c_1.Day] 385 ?_
      obtain⟨r9,hr9,h⟩:=bS h
      refine oy 401 (B r9) rfl (cP (Hb hr9)) ?_
      refine cq 3 [2] [B r9] 433 ?_
      exact rf [2] [] (j8 _ (an h) :)
     ·refine cq 6 [2] [B false] 433 ?_
      exact rf [2] [] (j8 _ (an h) :)
    ·refine cq 11 [2] [B false] 433 ?_
     exact rf [2] [] (j7 _ (an h) :)
   ·refine cq 5 [51] [B (c_1.Op==4)] 257 ?_
    refine sq h ?_ ?_<;>intro h
    ·refine cq 5 [55] [B ((len c_1.Parts)==1)] 305 ?_
     obtain⟨u10,hu10,h⟩:=lJ h
     have j10:Run jZ 0 (hP c_1 r) (.code QT::.blk 0::.code ka::[]) (sT 80 [(2,B u10)] [] 1):=by
      obtain rfl:=sI h
      exact rP [B u10]
     replace h:=hu10
     clear hu10
     refine sp 55 h rfl ?_ ?_<;>intro h
     ·refine cq 5 [60] [B (c_1.Name==([]:ae))] 385 ?_
      obtain⟨u11,hu11,h⟩:=lJ h
      have j11:Run jZ 0 (hP c_1 r) (.code QT::.blk 0::.code ka::[]) (sT 80 [(2,B u11)] [] 1):=by
       subst h
       exact rf [2] [] (j10 :)
      replace h:=hu11
      clear hu11
      refine sp 60 h rfl ?_ ?_<;>intro h
      ·refine cq 6 [2] [B (c_1.Day==0)] 465 ?_
       subst h
       exact rf [2] [] (j11 :)
      ·refine cq 6 [2] [B false] 465 ?_
       subst h
       exact rf [2] [] (j11 :)
     ·refine cq 11 [2] [B false] 465 ?_
      subst h
      exact rf [2] [] (j10 :)
    ·refine cq 6 [65] [B (c_1.Op==5)] 289 ?_
     obtain⟨u12,hu12,h⟩:=lJ h
     have j12:Run jZ 0 (hP c_1 r) (.code (cR (cR (cR (cR (cR (cR (cR (cR (cR (cL (cR (cL (cR (cR pf))))))))))))))::.blk 0::.code ka::[]) (sT 80 [(1,.hp 1 0 [] 4 0 0),(3,I (len c_1.Parts)),(65,B u12)] [⟨0,4,[ar c_1]⟩] 2):=by
      refine sq h ?_ ?_<;>intro h
      ·refine cq 5 [70] [B ((len c_1.Parts)==2)] 50 ?_
       obtain⟨u13,hu13,h⟩:=lJ h
       have j13:Run jZ 0 (hP c_1 r) (.code QU::.blk 0::.code ka::[]) (sT 80 [(2,B u13)] [] 1):=by
        obtain rfl:=sI h
        exact rP [B u13]
       replace h:=hu13
       clear hu13
       refine sp 70 h rfl ?_ ?_<;>intro h
       ·refine cq 5 [75] [B (c_1.Name==([]:ae))] 130 ?_
        obtain⟨u14,hu14,h⟩:=lJ h
        have j14:Run jZ 0 (hP c_1 r) (.code QU::.blk 0::.code ka::[]) (sT 80 [(2,B u14)] [] 1):=by
         subst h
         exact rf [2] [] (j13 :)
        replace h:=hu14
        clear hu14
        refine sp 75 h rfl ?_ ?_<;>intro h
        ·refine cq 6 [2] [B (c_1.Day==0)] 210 ?_
         subst h
         exact rf [2] [] (j14 :)
        ·refine cq 6 [2] [B false] 210 ?_
         subst h
         exact rf [2] [] (j14 :)
       ·refine cq 11 [2] [B false] 210 ?_
        subst h
        exact rf [2] [] (j13 :)
      ·refine aq 1 ?_
       refine cq 5 [2] [B false] 18 ?_
       obtain rfl:=sI h
       exact rP [B false]
     replace h:=hu12
     clear hu12
     refine tG h rfl rfl ?_ ?_<;>intro h
     ·refine aq 1 ?_
      subst h
      exact rf [1,3,65] [1] (j12 :)
     ·refine cq 4 [65] [B (c_1.Op==6)] 321 ?_
      subst h
      exact rf [1,3,65] [1] (j12 :)
theorem Wp {G:b7}:bZ G 190 DC:=gT 1 0 (aO tf (aO yh bv)) cf Tryz.func190 (fun a r h=>ZR a r h)
def yi:Condition→List V:=oA bK
def yj (r:Bool):V×List V:=(B r,[])
noncomputable def yk (cH:Condition→Option Bool):Ent:=bi [false] yi yj cH
theorem QV (cH:Condition→Option Bool){x}{r}(h:cH x=some r):(yk cH).F (yi x)=some (yj r):=aJ (aK dP) h
noncomputable def DD :=yk (aL sk)
theorem afH {c_1:Condition}{r}(h:JM c_1=some r):DD.F (yi c_1)=some (yj r):=QV (aL sk) h
noncomputable def Wr :=aH Tryz.f169
noncomputable def NB (cH:Condition→Option Bool):Env:=ce [(190,DC),(169,(yk cH))]
def Wq (cH:Condition→Option Bool)(x:Condition)(r:Bool):St→Prop:=QF (NB cH) Tryz.f169 [false] (yi x) (yj r)
theorem Qb (cH:Condition→Option Bool)(c_1:Condition):cj (NB cH) 0 (Wq cH c_1) (cL (cL (cR (cL (cR (cR Wr)))))) 0 (rT cH c_1) (fun u=>(sT 21 [] [] 1)) fun x3=>(sT 21 [(1,.hp 1 0 [] 4 0 0),(3,I x3)] [⟨0,4,[ar c_1]⟩] 2):=ef (Bh cH c_1) fun {Q K} hK self ih x3 y h hr hn=>by
 unfold l8 at h
 refine cq 6 [7,9] [I x3,.isl false (c_1.Parts.map aI)] 50 ?_
 refine oq 66 (I (len c_1.Parts)) rfl (bw rfl rfl rfl (bN rfl)) ?_
 refine cq 2 [11] [B (decide (x3<(len c_1.Parts)))] 82 ?_
 refine sq h ?_ ?_<;>intro h
 ·refine aq 1 ?_
  refine cq 7 [15,16] [.isl false (c_1.Parts.map aI),I x3] 130 ?_
  obtain⟨e4,he4,h⟩:=bS h
  refine oq 146 (.iptr (ar e4) 0) rfl (al rfl rfl rfl (bo rfl rfl (dK e4) rfl he4)) ?_
  refine cq 1 [18] [ar e4] 162 ?_
  obtain⟨r5,hr5,h⟩:=bS h
  refine oq 178 (B r5) rfl (bG rfl rfl (bX rfl rfl rfl (bg (bT rfl) cX) (QV cH hr5) (.inr rfl) dF rfl rfl rfl)) ?_
  refine cq 2 [20] [B (!r5)] 194 ?_
  refine sq h ?_ ?_<;>intro h
  ·refine cq 4 [2] [B false] 210 ?_
   exact b8 rfl (hr _ (an h) _ (qp [B false]))
  ·refine aq 1 ?_
   refine cq 6 [3] [I (ac (x3+1))] 242 ?_
   refine cY ?_
   exact rf [1,3] [1] (ih _ _ h hr hn :)
 ·refine aq 1 ?_
  exact rf [] [] (hn _ (an h) :) (hk:=hK)
theorem ZT (cH:Condition→Option Bool)(c_1:Condition)(r:Bool)(h:va cH c_1=some r):br (NB cH) Tryz.f169 [false] 0 (yi c_1) (yj r):=by
 show Run _ _ (Wq cH c_1 r) [.code Wr] _
 refine rI 21 [(0,ar c_1)] [] 1 ?_
 unfold va at h
 refine ck 9 [1,4] [] [1] [] [.hp 1 0 [] 4 0 0,ar c_1] [some ⟨0,4,[ar c_1]⟩] 49 (by kernel_rfl) ?_
 obtain⟨r2,hr2,h⟩:=bS h
 refine oq 65 (B r2) rfl (cP (afG hr2)) ?_
 refine cq 2 [6] [B (!r2)] 81 ?_
 refine sq h ?_ ?_<;>intro h
 ·refine cq 4 [2] [B false] 97 ?_
  obtain rfl:=sI h
  exact rP [B false]
 ·refine aq 1 ?_
  refine cq 6 [3] [I (0)] 97 ?_
  obtain⟨y6,hy6,hy61,hy62⟩:=bJ h
  refine bO rfl ?_
  refine rf [1,3] [1] (Qb cH c_1 rfl 0 _ hy6 (fun r' e st hq=>by rw[hy61 r' e] at hq;exact hq) fun u6 hu=>?_)
  replace h:=hy62 u6 hu
  refine cq 4 [2] [B true] 17 ?_
  obtain rfl:=sI h
  exact rP [B true]
theorem Ws {G:b7}:bZ G 169 DD:=jM fun cH g_Ffeb=>gT 1 0 (aO Wp (aO g_Ffeb bv)) cf Tryz.func169 (fun a r h=>ZT cH a r h)
def yy:Condition→List V:=oA bK
def yz (r:Int):V×List V:=(I r,[])
noncomputable def yA (cJ:Condition→Option Int):Ent:=bi [false] yy yz cJ
theorem QX (cJ:Condition→Option Int){x}{r}(h:cJ x=some r):(yA cJ).F (yy x)=some (yz r):=aJ (aK dP) h
noncomputable def DI :=yA (aL mb)
theorem afK {c_1:Condition}{r}(h:NI c_1=some r):DI.F (yy c_1)=some (yz r):=QX (aL mb) h
noncomputable def WD :=aH Tryz.f170
noncomputable def NJ (cJ:Condition→Option Int):Env:=ce [(170,(yA cJ))]
def WC (cJ:Condition→Option Int)(x:Condition)(r:Int):St→Prop:=QF (NJ cJ) Tryz.f170 [false] (yy x) (yz r)
theorem Qg (cJ:Condition→Option Int)(c_1:Condition):cj (NJ cJ) 0 (WC cJ c_1) (cL (cL (cR (cL (cR (cR WD)))))) 0 (mM cJ c_1) (fun u=>(sT 21 [(3,I u)] [] 1)) fun x2=>(sT 21 [(1,.hp 1 0 [] 4 0 0),(3,I x2.1),(4,I x2.2)] [⟨0,4,[ar c_1]⟩] 2):=ef (Bm cJ c_1) fun {Q K} hK self ih x2 y h hr hn=>by
 unfold kC at h
 refine cq 6 [5,7] [I x2.2,.isl false (c_1.Parts.map aI)] 50 ?_
 refine oq 66 (I (len c_1.Parts)) rfl (bw rfl rfl rfl (bN rfl)) ?_
 refine cq 2 [9] [B (decide (x2.2<(len c_1.Parts)))] 82 ?_
 refine sq h ?_ ?_<;>intro h
 ·refine aq 1 ?_
  refine cq 7 [12,14,15] [I x2.1,.isl false (c_1.Parts.map aI),I x2.2] 146 ?_
  obtain⟨e3,he3,h⟩:=bS h
  refine oq 162 (.iptr (ar e3) 0) rfl (al rfl rfl rfl (bo rfl rfl (dK e3) rfl he3)) ?_
  refine cq 1 [17] [ar e3] 178 ?_
  obtain⟨r4,hr4,h⟩:=bS h
  refine oq 194 (I r4) rfl (bG rfl rfl (bX rfl rfl rfl (bg (bT rfl) cX) (QX cJ hr4) (.inr rfl) dF rfl rfl rfl)) ?_
  refine cq 9 [3,4] [I (ac (x2.1+r4)),I (ac (x2.2+1))] 274 ?_
  refine cY ?_
  exact rf [1,3,4] [1] (ih _ _ h hr hn :)
 ·refine aq 1 ?_
  exact rf [3] [] (hn _ (an h) :) (hk:=hK)
theorem Z2 (cJ:Condition→Option Int)(c_1:Condition)(r:Int)(h:vh cJ c_1=some r):br (NJ cJ) Tryz.f170 [false] 0 (yy c_1) (yz r):=by
 show Run _ _ (WC cJ c_1 r) [.code WD] _
 refine rI 21 [(0,ar c_1)] [] 1 ?_
 unfold vh at h
 refine ck 15 [1,3,4] [] [1] [] [.hp 1 0 [] 4 0 0,I (1),I (0)] [some ⟨0,4,[ar c_1]⟩] 65 (by kernel_rfl) ?_
 obtain⟨y5,hy5,hy51,hy52⟩:=bJ h
 refine bO rfl ?_
 refine rf [1,3,4] [1] (Qg cJ c_1 rfl (1,0) _ hy5 (fun r' e st hq=>by rw[hy51 r' e] at hq;exact hq) fun u5 hu=>?_)
 replace h:=hy52 u5 hu
 refine cq 5 [2] [I u5] 33 ?_
 obtain rfl:=sI h
 exact rP [I u5]
theorem WE {G:b7}:bZ G 170 DI:=jM fun cJ g_Ffei=>gT 1 0 (aO g_Ffei bv) cf Tryz.func170 (fun a r h=>Z2 cJ a r h)
def Hk:Condition→List V:=oA bK
def Hm (r:Bool):V×List V:=(B r,[])
noncomputable def DF :=bi [false] Hk Hm fun x=>DE x
theorem afI {c_1:Condition}{r}(h:DE c_1=some r):DF.F (Hk c_1)=some (Hm r):=aJ (aK dP) h
noncomputable def Wt :=aH Tryz.f135
noncomputable def NC :=ce [(169,DD),(170,DI)]
def Hl (x:Condition)(r:Bool):St→Prop:=QF NC Tryz.f135 [false] (Hk x) (Hm r)
theorem ZU (c_1:Condition)(r:Bool)(h:DE c_1=some r):br NC Tryz.f135 [false] 0 (Hk c_1) (Hm r):=by
 show Run _ _ (Hl c_1 r) [.code Wt] _
 refine rI 10 [(0,ar c_1)] [] 1 ?_
 unfold DE at h
 refine ck 8 [1,3] [] [1] [] [.hp 1 0 [] 4 0 0,ar c_1] [some ⟨0,4,[ar c_1]⟩] 49 (by kernel_rfl) ?_
 obtain⟨r2,hr2,h⟩:=bS h
 refine oq 65 (B r2) rfl (cP (afH hr2)) ?_
 refine cq 1 [5] [B r2] 81 ?_
 obtain⟨y3,hy3,hy31,hy32⟩:=bJ h
 have j3:∀u3,y3=.inr u3→Run NC 0 (Hl c_1 r) (.code (cR (cR Wt))::[]) (sT 10 [(2,B u3)] [] 1):=by
  intro u3 hu
  replace h:=hy32 u3 hu
  obtain rfl:=sI h
  exact rP [B u3]
 have r3:∀r',y3=.inl r'→∀st,Hl c_1 r' st→(Hl c_1 r) st:=fun r' e st hq=>by rw[hy31 r' e] at hq;exact hq
 replace h:=hy3
 refine sp 5 h rfl ?_ ?_<;>intro h
 ·refine cq 1 [6] [ar c_1] 97 ?_
  obtain⟨r4,hr4,h⟩:=bS h
  refine oy 113 (I r4) rfl (cP (afK hr4)) ?_
  refine cq 4 [2] [B (decide (r4≤15))] 161 ?_
  exact rf [2] [] (j3 _ (an h) :)
 ·refine cq 6 [2] [B false] 161 ?_
  exact rf [2] [] (j3 _ (an h) :)
theorem Wu {G:b7}:bZ G 135 DF:=gT 1 0 (aO Ws (aO WE bv)) cf Tryz.func135 (fun a r h=>ZU a r h)
def Hy:(Contract×Int)→List V:=cA aP (oA I)
def Hz (r:Bool):V×List V:=(B r,[])
noncomputable def DK :=bi [false,false] Hy Hz fun x=>DJ x.1 x.2
theorem WF {c_1:Contract}{i_2:Int}{r}(h:DJ c_1 i_2=some r):DK.F (Hy (c_1,i_2))=some (Hz r):=aJ (aN bb (aK bc)) h
noncomputable def NK :=aH Tryz.f92
noncomputable abbrev oI :=cR (cR (cR (cR NK)))
noncomputable abbrev rU :=cR (cL (cR (cR (cR NK))))
noncomputable abbrev vi :=cR oI
noncomputable abbrev zG :=cR (cL oI)
noncomputable abbrev JN :=cR (cR (cR vi))
noncomputable def jf :=ce [(80,pY),(89,fY),(91,wm),(135,DF)]
def eC (x:Contract×Int)(r:Bool):St→Prop:=QF jf Tryz.f92 [false,false] (Hy x) (Hz r)
theorem Z3 (c_1:Contract)(i_2:Int)(r:Bool)(h:DJ c_1 i_2=some r):br jf Tryz.f92 [false,false] 0 (Hy (c_1,i_2)) (Hz r):=by
 show Run _ _ (eC (c_1,i_2) r) [.code NK] _
 refine rI 114 [(0,aa c_1),(1,I i_2)] [] 1 ?_
 unfold DJ at h
 refine ck 10 [2,9,10] [] [1] [] [.hp 1 0 [] 2 0 0,.isl false (c_1.Clauses.map au),I i_2] [some ⟨0,2,[aa c_1]⟩] 81 (by kernel_rfl) ?_
 obtain⟨e3,he3,h⟩:=bS h
 refine oq 97 (.iptr (aB e3) 0) rfl (al rfl rfl rfl (bo rfl rfl rfl rfl he3)) ?_
 refine ck 2 [5,12] [] [113] [] [.hp 113 0 [] 12 0 0,aB e3] [some ⟨0,12,[.agg [str ([]),I (0),I (0),str ([]),I (0),I (0),I (0),str ([]),I (0),.isl true [],I (0),str ([])]]⟩] 129 (by kernel_rfl) ?_
 refine gm 113 [.agg [str ([]),I (0),I (0),str ([]),I (0),I (0),I (0),str ([]),I (0),.usl 4 (([]).map aj),I (0),str ([])]] rfl rfl (aR (iu (aR (.refl _) (aR (.refl _) (aR (.refl _) (aR (.refl _) (aR (.refl _) (aR (.refl _) (aR (.refl _) (aR (.refl _) (aR (.refl _) (aR (.nil _) (aR (.refl _) (aR (.refl _) fi))))))))))))) fi) ?_
 refine ck 6 [14] [] [113] [] [.isl false (c_1.Parties.map str)] [some ⟨2,12,[aB e3]⟩] 177 (by kernel_rfl) ?_
 refine oq 193 (I (len c_1.Parties)) rfl (bw rfl rfl rfl (bN rfl)) ?_
 refine cq 7 [6,17] [I (len c_1.Parties),str e3.Id] 241 ?_
 obtain⟨r4,hr4,h⟩:=bS h
 refine oq 257 (B r4) rfl (cP (sr hr4)) ?_
 refine cq 2 [20] [B (!r4)] 289 ?_
 obtain⟨y5,hy5,hy51,hy52⟩:=bJ h
 have j5:∀u5,y5=.inr u5→Run jf 0 (eC (c_1,i_2) r) (.code rU::.code oI::[]) (sT 114 [(1,I i_2),(2,.hp 1 0 [] 2 0 0),(5,.hp 2 0 [] 12 0 0),(60,B u5)] [⟨0,2,[aa c_1]⟩,⟨0,12,[aB e3]⟩] 3):=by
  intro u5 hu
  replace h:=hy52 u5 hu
  refine sq h ?_ ?_<;>intro h
  ·refine cq 4 [4] [B false] 19 ?_
   obtain rfl:=sI h
   exact rP [B false]
  ·refine aq 1 ?_
   refine cq 5 [62] [I e3.Amount] 35 ?_
   obtain⟨r6,hr6,h⟩:=bS h
   refine oq 51 (B r6) rfl (cP (eG hr6)) ?_
   refine cq 2 [65] [B (!r6)] 83 ?_
   obtain⟨y7,hy7,hy71,hy72⟩:=bJ h
   have j7:∀u7,y7=.inr u7→Run jf 0 (eC (c_1,i_2) r) (.code zG::.code vi::[]) (sT 114 [(1,I i_2),(2,.hp 1 0 [] 2 0 0),(5,.hp 2 0 [] 12 0 0),(85,B u7)] [⟨0,2,[aa c_1]⟩,⟨0,12,[aB e3]⟩] 3):=by
    intro u7 hu
    replace h:=hy72 u7 hu
    refine sq h ?_ ?_<;>intro h
    ·refine cq 4 [4] [B false] 19 ?_
     obtain rfl:=sI h
     exact rP [B false]
    ·refine aq 1 ?_
     refine cq 7 [88] [B (e3.Repair==([]:ae))] 51 ?_
     refine sq h ?_ ?_<;>intro h
     ·refine cq 4 [4] [B true] 67 ?_
      obtain rfl:=sI h
      exact rP [B true]
     ·refine aq 1 ?_
      refine cq 5 [89,91] [aa c_1,str e3.Repair] 99 ?_
      obtain⟨r8,hr8,h⟩:=bS h
      refine oq 115 (I r8) rfl (cP (NN hr8)) ?_
      refine cq 7 [7,95] [I r8,B (decide (r8≥0))] 179 ?_
      obtain⟨y9,hy9,hy91,hy92⟩:=bJ h
      have j9:∀u9,y9=.inr u9→Run jf 0 (eC (c_1,i_2) r) (.code JN::[]) (sT 114 [(4,B u9)] [] 1):=by
       intro u9 hu
       replace h:=hy92 u9 hu
       obtain rfl:=sI h
       exact rP [B u9]
      have r9:∀r',y9=.inl r'→∀st,eC (c_1,i_2) r' st→(eC (c_1,i_2) r) st:=fun r' e st hq=>by rw[hy91 r' e] at hq;exact hq
      replace h:=hy9
      refine sp 95 h rfl ?_ ?_<;>intro h
      ·refine cq 5 [100] [B (r8 != i_2)] 259 ?_
       obtain⟨y10,hy10,hy101,hy102⟩:=bL h
       have j10:∀u10,y10=.inr u10→Run jf 0 (eC (c_1,i_2) r) (.code JN::[]) (sT 114 [(4,B u10)] [] 1):=by
        intro u10 hu
        replace h:=hy102 u10 hu
        exact rf [4] [] (j9 _ (an h) :)
       have r10:∀r',y10=.inl r'→∀st,eC (c_1,i_2) r' st→(eC (c_1,i_2) r) st:=fun r' e st hq=>r9 r' (hy101 r' e) st hq
       replace h:=hy10
       refine sp 100 h rfl ?_ ?_<;>intro h
       ·refine cq 3 [102,103] [.isl false (c_1.Clauses.map au),I r8] 307 ?_
        obtain⟨e11,he11,h⟩:=bS h
        refine oy 323 (.iptr (aB e11) 0) rfl (al rfl rfl rfl (bo rfl rfl rfl rfl he11)) ?_
        refine cq 5 [109] [B (e11.Kind==1)] 403 ?_
        obtain⟨u12,hu12,h⟩:=lJ h
        have j12:Run jf 0 (eC (c_1,i_2) r) (.code JN::[]) (sT 114 [(4,B u12)] [] 1):=by
         exact rf [4] [] (j10 _ (an h) :)
        replace h:=hu12
        clear hu12
        refine sp 109 h rfl ?_ ?_<;>intro h
        ·refine cq 6 [4] [B (e3.Kind != 3)] 483 ?_
         subst h
         exact rf [4] [] (j12 :)
        ·refine cq 6 [4] [B false] 483 ?_
         subst h
         exact rf [4] [] (j12 :)
       ·refine cq 15 [4] [B false] 483 ?_
        exact rf [4] [] (j10 _ (an h) :)
      ·refine cq 20 [4] [B false] 483 ?_
       exact rf [4] [] (j9 _ (an h) :)
   have r7:∀r',y7=.inl r'→∀st,eC (c_1,i_2) r' st→(eC (c_1,i_2) r) st:=fun r' e st hq=>by rw[hy71 r' e] at hq;exact hq
   replace h:=hy7
   refine sp 65 h rfl ?_ ?_<;>intro h
   ·refine cq 21 [85] [B true] 403 ?_
    exact rf [1,2,5,85] [1,2] (j7 _ (an h) :)
   ·refine cq 2 [67] [I e3.Within] 115 ?_
    obtain⟨r13,hr13,h⟩:=bS h
    refine oy 131 (B r13) rfl (cP (eG hr13)) ?_
    refine cq 3 [71] [B (!r13)] 179 ?_
    obtain⟨u14,hu14,h⟩:=lJ h
    have j14:Run jf 0 (eC (c_1,i_2) r) (.code zG::.code vi::[]) (sT 114 [(1,I i_2),(2,.hp 1 0 [] 2 0 0),(5,.hp 2 0 [] 12 0 0),(85,B u14)] [⟨0,2,[aa c_1]⟩,⟨0,12,[aB e3]⟩] 3):=by
     exact rf [1,2,5,85] [1,2] (j7 _ (an h) :)
    replace h:=hu14
    clear hu14
    refine sp 71 h rfl ?_ ?_<;>intro h
    ·refine cq 15 [85] [B true] 403 ?_
     subst h
     exact rf [1,2,5,85] [1,2] (j14 :)
    ·refine cq 4 [75] [B (e3.Kind != 1)] 243 ?_
     obtain⟨u15,hu15,h⟩:=lJ h
     have j15:Run jf 0 (eC (c_1,i_2) r) (.code zG::.code vi::[]) (sT 114 [(1,I i_2),(2,.hp 1 0 [] 2 0 0),(5,.hp 2 0 [] 12 0 0),(85,B u15)] [⟨0,2,[aa c_1]⟩,⟨0,12,[aB e3]⟩] 3):=by
      subst h
      exact rf [1,2,5,85] [1,2] (j14 :)
     replace h:=hu15
     clear hu15
     refine sp 75 h rfl ?_ ?_<;>intro h
     ·refine cq 4 [79] [B (e3.Amount != 0)] 307 ?_
      obtain⟨u16,hu16,h⟩:=lJ h
      have j16:Run jf 0 (eC (c_1,i_2) r) (.code zG::.code vi::[]) (sT 114 [(1,I i_2),(2,.hp 1 0 [] 2 0 0),(5,.hp 2 0 [] 12 0 0),(85,B u16)] [⟨0,2,[aa c_1]⟩,⟨0,12,[aB e3]⟩] 3):=by
       subst h
       exact rf [1,2,5,85] [1,2] (j15 :)
      replace h:=hu16
      clear hu16
      refine sp 79 h rfl ?_ ?_<;>intro h
      ·refine cq 7 [85] [B true] 403 ?_
       subst h
       exact rf [1,2,5,85] [1,2] (j16 :)
      ·refine cq 7 [85] [B (e3.Within != 0)] 403 ?_
       subst h
       exact rf [1,2,5,85] [1,2] (j16 :)
     ·refine cq 11 [85] [B false] 403 ?_
      subst h
      exact rf [1,2,5,85] [1,2] (j15 :)
 have r5:∀r',y5=.inl r'→∀st,eC (c_1,i_2) r' st→(eC (c_1,i_2) r) st:=fun r' e st hq=>by rw[hy51 r' e] at hq;exact hq
 replace h:=hy5
 refine sp 20 h rfl ?_ ?_<;>intro h
 ·refine cq 41 [60] [B true] 929 ?_
  exact rf [1,2,5,60] [1,113] (j5 _ (an h) :)
 ·refine cq 2 [22] [str e3.Action] 321 ?_
  obtain⟨r17,hr17,h⟩:=bS h
  refine oy 337 (B r17) rfl (cP (sr hr17)) ?_
  refine cq 3 [26] [B (!r17)] 385 ?_
  obtain⟨y18,hy18,hy181,hy182⟩:=bL h
  have j18:∀u18,y18=.inr u18→Run jf 0 (eC (c_1,i_2) r) (.code rU::.code oI::[]) (sT 114 [(1,I i_2),(2,.hp 1 0 [] 2 0 0),(5,.hp 2 0 [] 12 0 0),(60,B u18)] [⟨0,2,[aa c_1]⟩,⟨0,12,[aB e3]⟩] 3):=by
   intro u18 hu
   replace h:=hy182 u18 hu
   exact rf [1,2,5,60] [1,2] (j5 _ (an h) :)
  have r18:∀r',y18=.inl r'→∀st,eC (c_1,i_2) r' st→(eC (c_1,i_2) r) st:=fun r' e st hq=>r5 r' (hy181 r' e) st hq
  replace h:=hy18
  refine sp 26 h rfl ?_ ?_<;>intro h
  ·refine cq 35 [60] [B true] 929 ?_
   exact rf [1,2,5,60] [1,113] (j18 _ (an h) :)
  ·refine cq 2 [28] [I e3.Kind] 417 ?_
   obtain⟨r19,hr19,h⟩:=bS h
   refine oy 433 (B r19) rfl (cP (eG hr19)) ?_
   refine cq 3 [32] [B (!r19)] 481 ?_
   obtain⟨y20,hy20,hy201,hy202⟩:=bL h
   have j20:∀u20,y20=.inr u20→Run jf 0 (eC (c_1,i_2) r) (.code rU::.code oI::[]) (sT 114 [(1,I i_2),(2,.hp 1 0 [] 2 0 0),(5,.hp 2 0 [] 12 0 0),(60,B u20)] [⟨0,2,[aa c_1]⟩,⟨0,12,[aB e3]⟩] 3):=by
    intro u20 hu
    replace h:=hy202 u20 hu
    exact rf [1,2,5,60] [1,2] (j18 _ (an h) :)
   have r20:∀r',y20=.inl r'→∀st,eC (c_1,i_2) r' st→(eC (c_1,i_2) r) st:=fun r' e st hq=>r18 r' (hy201 r' e) st hq
   replace h:=hy20
   refine sp 32 h rfl ?_ ?_<;>intro h
   ·refine cq 29 [60] [B true] 929 ?_
    exact rf [1,2,5,60] [1,113] (j20 _ (an h) :)
   ·refine cq 4 [34,36] [I e3.Party,I (ac ((len c_1.Parties) - 1))] 545 ?_
    obtain⟨r21,hr21,h⟩:=bS h
    refine oy 561 (B r21) rfl (cP (eG hr21)) ?_
    refine cq 3 [40] [B (!r21)] 609 ?_
    obtain⟨y22,hy22,hy221,hy222⟩:=bL h
    have j22:∀u22,y22=.inr u22→Run jf 0 (eC (c_1,i_2) r) (.code rU::.code oI::[]) (sT 114 [(1,I i_2),(2,.hp 1 0 [] 2 0 0),(5,.hp 2 0 [] 12 0 0),(60,B u22)] [⟨0,2,[aa c_1]⟩,⟨0,12,[aB e3]⟩] 3):=by
     intro u22 hu
     replace h:=hy222 u22 hu
     exact rf [1,2,5,60] [1,2] (j20 _ (an h) :)
    have r22:∀r',y22=.inl r'→∀st,eC (c_1,i_2) r' st→(eC (c_1,i_2) r) st:=fun r' e st hq=>r20 r' (hy221 r' e) st hq
    replace h:=hy22
    refine sp 40 h rfl ?_ ?_<;>intro h
    ·refine cq 21 [60] [B true] 929 ?_
     exact rf [1,2,5,60] [1,113] (j22 _ (an h) :)
    ·refine cq 4 [42,44] [I e3.Other,I (ac ((len c_1.Parties) - 1))] 673 ?_
     obtain⟨r23,hr23,h⟩:=bS h
     refine oy 689 (B r23) rfl (cP (eG hr23)) ?_
     refine cq 3 [48] [B (!r23)] 737 ?_
     obtain⟨y24,hy24,hy241,hy242⟩:=bL h
     have j24:∀u24,y24=.inr u24→Run jf 0 (eC (c_1,i_2) r) (.code rU::.code oI::[]) (sT 114 [(1,I i_2),(2,.hp 1 0 [] 2 0 0),(5,.hp 2 0 [] 12 0 0),(60,B u24)] [⟨0,2,[aa c_1]⟩,⟨0,12,[aB e3]⟩] 3):=by
      intro u24 hu
      replace h:=hy242 u24 hu
      exact rf [1,2,5,60] [1,2] (j22 _ (an h) :)
     have r24:∀r',y24=.inl r'→∀st,eC (c_1,i_2) r' st→(eC (c_1,i_2) r) st:=fun r' e st hq=>r22 r' (hy241 r' e) st hq
     replace h:=hy24
     refine sp 48 h rfl ?_ ?_<;>intro h
     ·refine cq 13 [60] [B true] 929 ?_
      exact rf [1,2,5,60] [1,113] (j24 _ (an h) :)
     ·refine cq 7 [55] [B (e3.Party==e3.Other)] 849 ?_
      obtain⟨y25,hy25,hy251,hy252⟩:=bL h
      have j25:∀u25,y25=.inr u25→Run jf 0 (eC (c_1,i_2) r) (.code rU::.code oI::[]) (sT 114 [(1,I i_2),(2,.hp 1 0 [] 2 0 0),(5,.hp 2 0 [] 12 0 0),(60,B u25)] [⟨0,2,[aa c_1]⟩,⟨0,12,[aB e3]⟩] 3):=by
       intro u25 hu
       replace h:=hy252 u25 hu
       exact rf [1,2,5,60] [1,2] (j24 _ (an h) :)
      have r25:∀r',y25=.inl r'→∀st,eC (c_1,i_2) r' st→(eC (c_1,i_2) r) st:=fun r' e st hq=>r24 r' (hy251 r' e) st hq
      replace h:=hy25
      refine sp 55 h rfl ?_ ?_<;>intro h
      ·refine cq 6 [60] [B true] 929 ?_
       exact rf [1,2,5,60] [1,113] (j25 _ (an h) :)
      ·refine cq 2 [57] [ar e3.When] 881 ?_
       obtain⟨r26,hr26,h⟩:=bS h
       refine oy 897 (B r26) rfl (cP (afI hr26)) ?_
       refine cq 3 [60] [B (!r26)] 929 ?_
       exact rf [1,2,5,60] [1,113] (j25 _ (an h) :)
theorem WG {G:b7}:bZ G 92 DK:=gT 2 0 (aO tf (aO gE (aO KJ (aO Wu bv)))) cf Tryz.func92 (fun a r h=>Z3 a.1 a.2 r h)
def Hs:((List ae)×ae)→List V:=cA (o9 1 str) (oA str)
def Ht (r:(List ae)):V×List V:=(.usl 1 (r.map str),[.dead])
noncomputable def wj :=bi [true,false] Hs Ht fun x=>yq x.1 x.2
theorem NH {l_8:List ae}{s_9:ae}{r}(h:yq l_8 s_9=some r):wj.F (Hs (l_8,s_9))=some (Ht r):=aJ (aN (fu bQ) (aK bQ)) h
noncomputable def ss :=aH Tryz.f137
noncomputable def yt :=ce []
def ve (x:(List ae)×ae)(r:(List ae)):St→Prop:=QF yt Tryz.f137 [true,false] (Hs x) (Ht r)
theorem Qf (l_8:List ae)(s_9:ae):cj yt 1 (ve (l_8,s_9)) (cL (cL (cL (cR (cR ss))))) 0 (vf l_8 s_9) (fun u=>(sO 45 [(0,.hs 2 0 [] 1 0 (u.2.2.map str).length),(1,str u.1),(5,I u.2.1)] [none,some ⟨0,1,u.2.2.map str⟩] 3)) fun x3=>(sO 45 [(0,.hs 2 0 [] 1 0 (l_8.map str).length),(1,str s_9),(5,I x3)] [none,some ⟨0,1,l_8.map str⟩] 3):=ef (Bl l_8 s_9) fun {Q K} hK self ih x3 y h hr hn=>by
 unfold ma at h
 refine cq 5 [6,7] [I x3,.hs 2 0 [] 1 0 (l_8.map str).length] 35 ?_
 refine oq 51 (I (len l_8)) rfl (bw rfl rfl rfl (nG (f:=str) (xs:=l_8) rfl rfl)) ?_
 refine cq 2 [10] [B (decide (x3<(len l_8)))] 83 ?_
 obtain⟨y4,hy4,hy41,hy42⟩:=bL h
 have j4:∀u4,y4=.inr u4→Run yt 1 Q (.code (cR (cL (cL (cL (cL (cR (cR ss)))))))::.code (cR (cL (cL (cL (cR (cR ss))))))::.lp (cL (cL (cL (cR (cR ss)))))::.blk 0::K) (sO 45 [(0,.hs 2 0 [] 1 0 (l_8.map str).length),(1,str s_9),(5,I x3),(17,B u4)] [none,some ⟨0,1,l_8.map str⟩] 3):=by
  intro u4 hu
  replace h:=hy42 u4 hu
  refine sq h ?_ ?_<;>intro h
  ·refine aq 1 ?_
   refine cq 7 [5] [I (ac (x3+1))] 51 ?_
   refine cY ?_
   exact rg [0,1,5] [52,2] (ih _ _ h hr hn :)
  ·refine aq 1 ?_
   exact rg [0,1,5] [4,2] (hn _ (an h) :) (hk:=hK)
 have r4:∀r',y4=.inl r'→∀st,ve (l_8,s_9) r' st→Q st:=fun r' e st hq=>hr r' (hy41 r' e) st hq
 replace h:=hy4
 refine sp 10 h rfl ?_ ?_<;>intro h
 ·refine cq 2 [11,12] [.hs 2 0 [] 1 0 (l_8.map str).length,I x3] 115 ?_
  obtain⟨e5,he5,h⟩:=bS h
  refine oy 131 (.hp 2 0 [] 1 (0+Int.toNat x3) 0) rfl (al rfl rfl rfl (cp (f:=str) (xs:=l_8) rfl rfl rfl he5)) ?_
  refine oy 147 (str e5) rfl (aX rfl (gk (path:=[]) rfl rfl rfl aE (bU (f:=str) (xs:=l_8) he5) rfl rfl rfl)) ?_
  refine cq 4 [17] [B (Op.bytesLess e5 s_9)] 195 ?_
  exact rg [0,1,5,17] [196,2] (j4 _ (an h) :)
 ·refine cq 8 [17] [B false] 195 ?_
  exact rg [0,1,5,17] [196,2] (j4 _ (an h) :)
theorem ZZ (l_8:List ae)(s_9:ae)(r:(List ae))(h:yq l_8 s_9=some r):br yt Tryz.f137 [true,false] 1 (Hs (l_8,s_9)) (Ht r):=by
 show Run _ _ (ve (l_8,s_9) r) [.code ss] _
 refine rI 45 [(0,.hs 1 0 [] 1 0 (l_8.map str).length),(1,str s_9)] [(1,some ⟨0,1,l_8.map str⟩)] 2 ?_
 unfold yq at h
 refine cq 10 [5] [I (0)] 34 ?_
 obtain⟨y6,hy6,hy61,hy62⟩:=bJ h
 refine bO rfl ?_
 refine rg [0,1,5] [35,1] (Qf l_8 s_9 rfl 0 _ hy6 (fun r' e st hq=>by rw[hy61 r' e] at hq;exact hq) fun u6 hu=>?_)
 replace h:=hy62 u6 hu
 refine cq 5 [20,21] [I u6.2.1,.hs 2 0 [] 1 0 (u6.2.2.map str).length] 35 ?_
 refine oq 51 (I (len u6.2.2)) rfl (bw rfl rfl rfl (nG (f:=str) (xs:=u6.2.2) rfl rfl)) ?_
 refine cq 2 [24] [B (decide (u6.2.1<(len u6.2.2)))] 83 ?_
 obtain⟨y7,hy7,hy71,hy72⟩:=bJ h
 have j7:∀u7,y7=.inr u7→Run yt 1 (ve (l_8,s_9) r) (.code (cR (cL (cR (cR (cR ss)))))::.code (cR (cR (cR (cR ss))))::[]) (sO 45 [(0,.hs 2 0 [] 1 0 (u6.2.2.map str).length),(1,str u6.1),(5,I u6.2.1),(31,B u7)] [none,some ⟨0,1,u6.2.2.map str⟩] 3):=by
  intro u7 hu
  replace h:=hy72 u7 hu
  refine sq h ?_ ?_<;>intro h
  ·refine cq 5 [4] [.hs 2 0 [] 1 0 (u6.2.2.map str).length] 35 ?_
   obtain rfl:=sI h
   exact b8 rfl ⟨_,fin (vs:=[.hs 2 0 [] 1 0 (u6.2.2.map str).length]) rfl (eV (fZ rfl (dx rfl rfl)) dU) rfl (jq rfl (lK rfl) (cu eN)),sJ eH⟩
  ·refine aq 1 ?_
   refine aq 1 ?_
   refine eb [0,0,0,6,15,0,32,127,0,0,768,2047,4095] rfl (by decide +kernel) ?_
   refine dq [] [] (.hs 3 0 [] 1 0 0) rfl (eM rfl (kI (f:=I) (xs:=[]) (z:=str ([])) (es:=[]) (ws:=[]) rfl rfl rfl (by decide) rfl (dY rfl) rfl)) ?_
   refine dk 2 [35,34] [I u6.2.1,.hs 2 0 [] 1 0 (u6.2.2.map str).length] ?_
   obtain⟨s8,hs8,h⟩:=bS h
   refine dq [2] [] (.hs 2 0 [] 1 (0+Int.toNat (0)) (Int.toNat u6.2.1 - Int.toNat (0))) rfl (iD rfl rfl rfl rfl (vM (f:=str) (xs:=u6.2.2) rfl rfl rfl rfl rfl hs8)) ?_
   obtain⟨p9,hp9,h⟩:=bS h
   obtain⟨a10,ha10,h⟩:=bS h
   refine dq [3,2] [3] (.hs 67 0 [] 1 0 (a10.map str).length) rfl (kJ rfl rfl rfl rfl rfl (pn (path:=[]) (es0:=[]) (f:=str) (xs:=([]:List ae)) (ys:=p9) rfl rfl (RB (path:=[]) (f:=str) (xs:=u6.2.2) rfl rfl aE hp9 nU) rfl rfl rfl rfl rfl (by decide) mF ha10 rfl sV)) ?_ (Jp rfl (IB (path:=[]) (f:=str) (xs:=u6.2.2) rfl rfl aE nU rfl))
   refine dk 1 [38] [str u6.1] ?_
   refine dq [] [] (.hs 99 0 [] 1 0 1) rfl (eM rfl (kI (f:=I) (xs:=[]) (z:=str ([])) (es:=[str u6.1]) (ws:=[str u6.1]) rfl rfl rfl (by decide) rfl (dY rfl) rfl)) ?_
   obtain⟨a11,ha11,h⟩:=bS h
   refine dq [67,99] [67] (.hs 115 0 [] 1 0 (a11.map str).length) rfl (kJ rfl rfl rfl rfl rfl (pn (path:=[]) (f:=str) (xs:=a10) (ys:=[u6.1]) rfl rfl (vO rfl rfl rfl) rfl rfl rfl aE rfl (by decide) mF ha11 rfl sV)) ?_ (Jp rfl (IB (path:=[]) (f:=str) (xs:=[u6.1]) rfl rfl aE nU rfl))
   refine dk 2 [42,41] [I u6.2.1,.hs 2 0 [] 1 0 (u6.2.2.map str).length] ?_
   obtain⟨s12,hs12,h⟩:=bS h
   refine dq [2] [] (.hs 2 0 [] 1 (0+Int.toNat u6.2.1) (Int.toNat (len u6.2.2) - Int.toNat u6.2.1)) rfl (iD rfl rfl rfl rfl (vM (f:=str) (xs:=u6.2.2) rfl rfl rfl rfl (aaD rfl) hs12)) ?_
   obtain⟨p13,hp13,h⟩:=bS h
   obtain⟨a14,ha14,h⟩:=bS h
   refine dq [115,2] [115] (.hs 179 0 [] 1 0 (a14.map str).length) rfl (kJ rfl rfl rfl rfl rfl (pn (path:=[]) (f:=str) (xs:=a11) (ys:=p13) rfl rfl (RB (path:=[]) (f:=str) (xs:=u6.2.2) rfl rfl aE hp13 nU) rfl rfl rfl aE rfl (by decide) mF ha14 rfl sV)) ?_ (Jp rfl (IB (path:=[]) (f:=str) (xs:=u6.2.2) rfl rfl aE nU rfl))
   refine dk 1 [4] [.hs 179 0 [] 1 0 (a14.map str).length] ?_
   refine de 211 rfl rfl ?_
   obtain rfl:=sI h
   exact b8 rfl ⟨_,fin (vs:=[.hs 179 0 [] 1 0 (a14.map str).length]) rfl (eV (fZ rfl (dx rfl rfl)) dU) rfl (jq rfl (lK rfl) (cu eN)),sJ eH⟩
 have r7:∀r',y7=.inl r'→∀st,ve (l_8,s_9) r' st→(ve (l_8,s_9) r) st:=fun r' e st hq=>by rw[hy71 r' e] at hq;exact hq
 replace h:=hy7
 refine sp 24 h rfl ?_ ?_<;>intro h
 ·refine cq 2 [25,26] [.hs 2 0 [] 1 0 (u6.2.2.map str).length,I u6.2.1] 115 ?_
  obtain⟨e15,he15,h⟩:=bS h
  refine oy 131 (.hp 2 0 [] 1 (0+Int.toNat u6.2.1) 0) rfl (al rfl rfl rfl (cp (f:=str) (xs:=u6.2.2) rfl rfl rfl he15)) ?_
  refine oy 147 (str e15) rfl (aX rfl (gk (path:=[]) rfl rfl rfl aE (bU (f:=str) (xs:=u6.2.2) he15) rfl rfl rfl)) ?_
  refine cq 4 [31] [B (e15==u6.1)] 195 ?_
  exact rg [0,1,5,31] [196,2] (j7 _ (an h) :)
 ·refine cq 8 [31] [B false] 195 ?_
  exact rg [0,1,5,31] [196,2] (j7 _ (an h) :)
theorem KI {G:b7}:bZ G 137 wj:=gT 2 1 bv cf Tryz.func137 (fun a r h=>ZZ a.1 a.2 r h)
def ym:((List ae)×Condition)→List V:=cA (o9 1 str) (oA bK)
def yo (r:(List ae)):V×List V:=(.usl 1 (r.map str),[.dead])
noncomputable def yp (cI:((List ae)×Condition)→Option (List ae)):Ent:=bi [true,false] ym yo cI
theorem QW (cI:((List ae)×Condition)→Option (List ae)){x}{r}(h:cI x=some r):(yp cI).F (ym x)=some (yo r):=aJ (aN (fu bQ) (aK dP)) h
noncomputable def DG :=yp (aL l9)
theorem Wx {l_4:List ae}{c_5:Condition}{r}(h:NF l_4 c_5=some r):DG.F (ym (l_4,c_5))=some (yo r):=QW (aL l9) h
noncomputable def Wz :=aH Tryz.f136
noncomputable def NG (cI:((List ae)×Condition)→Option (List ae)):Env:=ce [(137,wj),(136,(yp cI))]
def Wy (cI:((List ae)×Condition)→Option (List ae))(x:(List ae)×Condition)(r:(List ae)):St→Prop:=QF (NG cI) Tryz.f136 [true,false] (ym x) (yo r)
theorem Qe (cI:((List ae)×Condition)→Option (List ae))(l_4:List ae)(c_5:Condition):cj (NG cI) 1 (Wy cI (l_4,c_5)) (cL (cL (cR (cL (cR (cR Wz)))))) 0 (mL cI l_4 c_5) (fun u=>(sO 28 [(0,.hs 2 0 [] 1 0 (u.map str).length)] [none,some ⟨0,1,u.map str⟩] 3)) fun x4=>(sO 28 [(0,.hs 2 0 [] 1 0 (x4.2.map str).length),(3,.hp 3 0 [] 4 0 0),(5,I x4.1)] [none,some ⟨0,1,x4.2.map str⟩,some ⟨0,4,[ar c_5]⟩] 4):=ef (Bk cI l_4 c_5) fun {Q K} hK self ih x4 y h hr hn=>by
 unfold kB at h
 refine cq 6 [13,15] [I x4.1,.isl false (c_5.Parts.map aI)] 52 ?_
 refine oq 68 (I (len c_5.Parts)) rfl (bw rfl rfl rfl (bN rfl)) ?_
 refine cq 2 [17] [B (decide (x4.1<(len c_5.Parts)))] 84 ?_
 refine sq h ?_ ?_<;>intro h
 ·refine aq 1 ?_
  refine cq 7 [20,22,23] [.hs 2 0 [] 1 0 (x4.2.map str).length,.isl false (c_5.Parts.map aI),I x4.1] 148 ?_
  obtain⟨e5,he5,h⟩:=bS h
  refine oq 164 (.iptr (ar e5) 0) rfl (al rfl rfl rfl (bo rfl rfl (dK e5) rfl he5)) ?_
  refine cq 1 [25] [ar e5] 180 ?_
  obtain⟨r6,hr6,h⟩:=bS h
  refine oq 196 (.hs 180 0 [] 1 0 (r6.map str).length) rfl (bG rfl rfl (bX rfl rfl rfl (iC (iH rfl (eO (path:=[]) rfl rfl aE rfl)) (bg (bT rfl) cX)) (QW cI hr6) (.inr rfl) (gI rfl rfl rfl mS dF) rfl rfl rfl)) ?_
  refine cq 8 [0,5] [.hs 180 0 [] 1 0 (r6.map str).length,I (ac (x4.1+1))] 260 ?_
  refine cY ?_
  exact rg [0,3,5] [261,180,3] (ih _ _ h hr hn :)
 ·refine aq 1 ?_
  exact rg [0] [85,2] (hn _ (an h) :) (hk:=hK)
theorem ZY (cI:((List ae)×Condition)→Option (List ae))(l_4:List ae)(c_5:Condition)(r:(List ae))(h:vd cI l_4 c_5=some r):br (NG cI) Tryz.f136 [true,false] 1 (ym (l_4,c_5)) (yo r):=by
 show Run _ _ (Wy cI (l_4,c_5) r) [.code Wz] _
 refine rI 28 [(0,.hs 1 0 [] 1 0 (l_4.map str).length),(1,ar c_5)] [(1,some ⟨0,1,l_4.map str⟩)] 2 ?_
 unfold vd at h
 refine ck 12 [3,8] [] [2] [] [.hp 2 0 [] 4 0 0,B (c_5.Op==2)] [some ⟨0,4,[ar c_5]⟩] 82 (by kernel_rfl) ?_
 refine sq h ?_ ?_<;>intro h
 ·refine cq 5 [9,11] [.hs 1 0 [] 1 0 (l_4.map str).length,str c_5.Name] 130 ?_
  obtain⟨r3,hr3,h⟩:=bS h
  refine oq 146 (.hs 130 0 [] 1 0 (r3.map str).length) rfl (bG rfl rfl (bX rfl rfl rfl (iC (iH rfl (eO (path:=[]) rfl rfl aE rfl)) (bg (bT rfl) cX)) (NH hr3) (.inr rfl) (gI rfl rfl rfl mS dF) rfl rfl rfl)) ?_
  refine cq 2 [4] [.hs 130 0 [] 1 0 (r3.map str).length] 162 ?_
  obtain rfl:=sI h
  exact b8 rfl ⟨_,fin (vs:=[.hs 130 0 [] 1 0 (r3.map str).length]) rfl (eV (fZ rfl (dx rfl rfl)) dU) rfl (jq rfl (lK rfl) (cu eN)),sJ eH⟩
 ·refine aq 1 ?_
  refine cq 6 [5] [I (0)] 98 ?_
  obtain⟨y7,hy7,hy71,hy72⟩:=bJ h
  refine bO rfl ?_
  refine rg [0,3,5] [99,1,2] (Qe cI l_4 c_5 rfl (0,l_4) _ hy7 (fun r' e st hq=>by rw[hy71 r' e] at hq;exact hq) fun u7 hu=>?_)
  replace h:=hy72 u7 hu
  refine cq 5 [4] [.hs 2 0 [] 1 0 (u7.map str).length] 35 ?_
  obtain rfl:=sI h
  exact b8 rfl ⟨_,fin (vs:=[.hs 2 0 [] 1 0 (u7.map str).length]) rfl (eV (fZ rfl (dx rfl rfl)) dU) rfl (jq rfl (lK rfl) (cu eN)),sJ eH⟩
theorem WA {G:b7}:bZ G 136 DG:=jM fun cI g_Ffef=>gT 2 1 (aO KI (aO g_Ffef bv)) cf Tryz.func136 (fun a r h=>ZY cI a.1 a.2 r h)
def HI:Contract→List V:=oA aP
def HJ (r:(List ae)):V×List V:=(.usl 1 (r.map str),[])
noncomputable def wn :=bi [false] HI HJ fun x=>pZ x
theorem WN {c_1:Contract}{r}(h:pZ c_1=some r):wn.F (HI c_1)=some (HJ r):=aJ (aK bb) h
noncomputable def WP :=aH Tryz.f93
noncomputable def NO :=ce [(137,wj),(136,DG)]
def WO (x:Contract)(r:(List ae)):St→Prop:=QF NO Tryz.f93 [false] (HI x) (HJ r)
theorem Qk (c_1:Contract):cj NO 0 (WO c_1) (cL (cL (cR (cL (cR (cR WP)))))) 0 (oL c_1) (fun u=>(sT 29 [(3,.hs 1 0 [] 1 0 (u.map str).length)] [⟨0,1,u.map str⟩] 2)) fun x2=>(sT 29 [(1,.hp 1 0 [] 2 0 0),(3,.hs 2 0 [] 1 0 (x2.2.map str).length),(4,I x2.1)] [⟨0,2,[aa c_1]⟩,⟨0,1,x2.2.map str⟩] 3):=ef (Bq c_1) fun {Q K} hK self ih x2 y h hr hn=>by
 unfold me at h
 refine cq 6 [6,8] [I x2.1,.isl false (c_1.Clauses.map au)] 51 ?_
 refine oq 67 (I (len c_1.Clauses)) rfl (bw rfl rfl rfl (bN rfl)) ?_
 refine cq 2 [10] [B (decide (x2.1<(len c_1.Clauses)))] 83 ?_
 refine sq h ?_ ?_<;>intro h
 ·refine aq 1 ?_
  refine aq 2 ?_
  refine eb [0,0,2,0,14,30,62,127,0,256,0,1792,3840,7936,16383,32767] rfl (by decide +kernel) ?_
  refine dk 1 [13] [.hs 2 0 [] 1 0 (x2.2.map str).length] ?_
  refine dq [1] [] (.hp 1 0 [] 2 0 1) rfl (az rfl rfl rfl) ?_
  refine dq [1] [] (.isl false (c_1.Clauses.map au)) rfl (aX rfl rfl) ?_
  refine dk 1 [16] [I x2.1] ?_
  obtain⟨e3,he3,h⟩:=bS h
  refine dq [] [] (.iptr (aB e3) 0) rfl (al rfl rfl rfl (bo rfl rfl rfl rfl he3)) ?_
  refine dq [] [] (.iptr (aB e3) 3) rfl (az rfl rfl rfl) ?_
  refine dq [] [] (str e3.Action) rfl (aX rfl rfl) ?_
  obtain⟨r4,hr4,h⟩:=bS h
  refine dq [2] [2] (.hs 195 0 [] 1 0 (r4.map str).length) rfl (bG rfl rfl (bX rfl rfl rfl (iC (iH rfl (eO (path:=[]) rfl rfl aE rfl)) (bg (bT rfl) cX)) (NH hr4) (.inr rfl) (gI rfl rfl rfl mS dF) rfl rfl rfl)) ?_ (d3 rfl rfl rfl rfl (iC (iH rfl (eO (path:=[]) rfl rfl aE rfl)) (bg (bT rfl) cX)) (NH hr4) (.inr rfl) rfl)
  refine dq [1] [] (.hp 1 0 [] 2 0 1) rfl (az rfl rfl rfl) ?_
  refine dq [1] [] (.isl false (c_1.Clauses.map au)) rfl (aX rfl rfl) ?_
  refine dk 1 [23] [I x2.1] ?_
  obtain⟨e5,he5,h⟩:=bS h
  refine dq [] [] (.iptr (aB e5) 0) rfl (al rfl rfl rfl (bo rfl rfl rfl rfl he5)) ?_
  refine dq [] [] (.iptr (aB e5) 6) rfl (az rfl rfl rfl) ?_
  refine dq [] [] (ar e5.When) rfl (aX rfl rfl) ?_
  obtain⟨r6,hr6,h⟩:=bS h
  refine dq [195] [195] (.hs 307 0 [] 1 0 (r6.map str).length) rfl (bG rfl rfl (bX rfl rfl rfl (iC (iH rfl (eO (path:=[]) rfl rfl aE rfl)) (bg (bT rfl) cX)) (Wx hr6) (.inr rfl) (gI rfl rfl rfl mS dF) rfl rfl rfl)) ?_ (d3 rfl rfl rfl rfl (iC (iH rfl (eO (path:=[]) rfl rfl aE rfl)) (bg (bT rfl) cX)) (Wx hr6) (.inr rfl) rfl)
  refine dk 1 [3] [.hs 307 0 [] 1 0 (r6.map str).length] ?_
  refine de 339 rfl rfl ?_
  refine cq 6 [4] [I (ac (x2.1+1))] 387 ?_
  refine cY ?_
  exact rf [1,3,4] [1,307] (ih _ _ h hr hn :)
 ·refine aq 1 ?_
  exact rf [3] [2] (hn _ (an h) :) (hk:=hK)
theorem Z7 (c_1:Contract)(r:(List ae))(h:pZ c_1=some r):br NO Tryz.f93 [false] 0 (HI c_1) (HJ r):=by
 show Run _ _ (WO c_1 r) [.code WP] _
 refine rI 29 [(0,aa c_1)] [] 1 ?_
 unfold pZ at h
 refine ck 7 [1] [] [1] [] [.hp 1 0 [] 2 0 0] [some ⟨0,2,[aa c_1]⟩] 33 (by kernel_rfl) ?_
 refine oq 49 (.hs 33 0 [] 1 0 0) rfl (eM rfl (kI (f:=I) (xs:=[]) (z:=str ([])) (es:=[]) (ws:=[]) rfl rfl rfl (by decide) rfl (dY rfl) rfl)) ?_
 refine cq 8 [3,4] [.hs 33 0 [] 1 0 0,I (0)] 81 ?_
 obtain⟨y7,hy7,hy71,hy72⟩:=bJ h
 refine bO rfl ?_
 refine rf [1,3,4] [1,33] (Qk c_1 rfl (0,[]) _ hy7 (fun r' e st hq=>by rw[hy71 r' e] at hq;exact hq) fun u7 hu=>?_)
 replace h:=hy72 u7 hu
 refine cq 5 [2] [.hs 1 0 [] 1 0 (u7.map str).length] 34 ?_
 obtain rfl:=sI h
 exact b8 rfl ⟨_,fin (vs:=[.hs 1 0 [] 1 0 (u7.map str).length]) rfl (eV (fZ rfl (dx rfl rfl)) dU) rfl (cu eN),eH⟩
theorem KK {G:b7}:bZ G 93 wn:=gT 1 0 (aO KI (aO WA bv)) cf Tryz.func93 (fun a r h=>Z7 a r h)
def HE:Contract→List V:=oA aP
def HF (r:Bool):V×List V:=(B r,[])
noncomputable def DP :=bi [false] HE HF fun x=>DN x
theorem afM {c_1:Contract}{r}(h:DN c_1=some r):DP.F (HE c_1)=some (HF r):=aJ (aK bb) h
noncomputable def HG :=aH Tryz.f43
noncomputable abbrev zH :=cL (cL (cR (cL (cR (cR HG)))))
noncomputable def yB :=ce [(89,fY),(91,wm),(92,DK),(93,wn),(90,DQ)]
def vl (x:Contract)(r:Bool):St→Prop:=QF yB Tryz.f43 [false] (HE x) (HF r)
theorem Qj (c_1:Contract):cj yB 0 (vl c_1) zH 0 (mN c_1) (fun u=>(sT 41 [(1,.hp 1 0 [] 2 0 0)] [⟨0,2,[aa c_1]⟩] 2)) fun x4=>(sT 41 [(1,.hp 1 0 [] 2 0 0),(3,I x4)] [⟨0,2,[aa c_1]⟩] 2):=ef (Bp c_1) fun {Q K} hK self ih x4 y h hr hn=>by
 unfold md at h
 refine cq 6 [14,16] [I x4,.isl false (c_1.Clauses.map au)] 50 ?_
 refine oq 66 (I (len c_1.Clauses)) rfl (bw rfl rfl rfl (bN rfl)) ?_
 refine cq 2 [18] [B (decide (x4<(len c_1.Clauses)))] 82 ?_
 refine sq h ?_ ?_<;>intro h
 ·refine aq 1 ?_
  refine aq 3 ?_
  refine eb [0,0,2,0,14,30,62,127,0,511,1023,2047,2047,8191,16383,32767] rfl (by decide +kernel) ?_
  refine dq [1] [] (aa c_1) rfl (aX rfl rfl) ?_
  refine dq [1] [] (.hp 1 0 [] 2 0 1) rfl (az rfl rfl rfl) ?_
  refine dq [1] [] (.isl false (c_1.Clauses.map au)) rfl (aX rfl rfl) ?_
  refine dk 1 [24] [I x4] ?_
  obtain⟨e5,he5,h⟩:=bS h
  refine dq [] [] (.iptr (aB e5) 0) rfl (al rfl rfl rfl (bo rfl rfl rfl rfl he5)) ?_
  refine dq [] [] (.iptr (aB e5) 0) rfl (az rfl rfl rfl) ?_
  refine dq [] [] (str e5.Id) rfl (aX rfl rfl) ?_
  obtain⟨r6,hr6,h⟩:=bS h
  refine dq [] [] (I r6) rfl (cP (NN hr6)) ?_ (d3 rfl rfl rfl rfl (bg (bT rfl) (bg (bT rfl) cX)) (NN hr6) (.inr rfl) rfl)
  refine dk 3 [31,30,29] [B (r6 != x4),B (r6 != x4),I x4] ?_
  obtain⟨y7,hy7,hy71,hy72⟩:=bL h
  have j7:∀u7,y7=.inr u7→Run yB 0 Q (.code (cR (cL (cL (cR zH))))::.blk 1::.code (cR (cR zH))::.lp zH::.blk 0::K) (sT 41 [(1,.hp 1 0 [] 2 0 0),(3,I x4),(36,B u7)] [⟨0,2,[aa c_1]⟩] 2):=by
   intro u7 hu
   replace h:=hy72 u7 hu
   refine sq h ?_ ?_<;>intro h
   ·refine cq 4 [2] [B false] 18 ?_
    exact b8 rfl (hr _ (an h) _ (qp [B false]))
   ·refine aq 1 ?_
    refine cq 6 [3] [I (ac (x4+1))] 50 ?_
    refine cY ?_
    exact rf [1,3] [1] (ih _ _ h hr hn :)
  have r7:∀r',y7=.inl r'→∀st,vl c_1 r' st→Q st:=fun r' e st hq=>hr r' (hy71 r' e) st hq
  replace h:=hy7
  refine sp 31 h rfl ?_ ?_<;>intro h
  ·refine dk 5 [36,35,34,33,32] [B true,.und,.und,.und,.und] ?_
   refine de 338 rfl rfl ?_
   exact rf [1,3,36] [1] (j7 _ (an h) :)
  ·refine dy [1] [] (aa c_1) rfl (aX rfl rfl) ?_
   refine dk 1 [33] [I x4] ?_
   obtain⟨r8,hr8,h⟩:=bS h
   refine dy [] [] (B r8) rfl (cP (WF hr8)) ?_ (d3 rfl rfl rfl rfl (bg (bT rfl) (bg (bT rfl) cX)) (WF hr8) (.inr rfl) rfl)
   refine dk 2 [36,35] [B (!r8),B (!r8)] ?_
   refine de 338 rfl rfl ?_
   exact rf [1,3,36] [1] (j7 _ (an h) :)
 ·refine aq 1 ?_
  exact rf [1] [1] (hn _ (an h) :) (hk:=hK)
theorem Z6 (c_1:Contract)(r:Bool)(h:DN c_1=some r):br yB Tryz.f43 [false] 0 (HE c_1) (HF r):=by
 show Run _ _ (vl c_1 r) [.code HG] _
 refine rI 41 [(0,aa c_1)] [] 1 ?_
 unfold DN at h
 refine ck 10 [1,5] [] [1] [] [.hp 1 0 [] 2 0 0,.isl false (c_1.Clauses.map au)] [some ⟨0,2,[aa c_1]⟩] 65 (by kernel_rfl) ?_
 refine oq 81 (I (len c_1.Clauses)) rfl (bw rfl rfl rfl (bN rfl)) ?_
 obtain⟨r2,hr2,h⟩:=bS h
 refine oq 97 (B r2) rfl (cP (eG hr2)) ?_
 refine cq 2 [9] [B (!r2)] 129 ?_
 obtain⟨y3,hy3,hy31,hy32⟩:=bJ h
 have j3:∀u3,y3=.inr u3→Run yB 0 (vl c_1 r) (.code (cR (cL (cR HG)))::.code (cR (cR HG))::[]) (sT 41 [(1,.hp 1 0 [] 2 0 0),(13,B u3)] [⟨0,2,[aa c_1]⟩] 2):=by
  intro u3 hu
  replace h:=hy32 u3 hu
  refine sq h ?_ ?_<;>intro h
  ·refine cq 4 [2] [B false] 18 ?_
   obtain rfl:=sI h
   exact rP [B false]
  ·refine aq 1 ?_
   refine cq 6 [3] [I (0)] 18 ?_
   obtain⟨y9,hy9,hy91,hy92⟩:=bJ h
   refine bO rfl ?_
   refine rf [1,3] [1] (Qj c_1 rfl 0 _ hy9 (fun r' e st hq=>by rw[hy91 r' e] at hq;exact hq) fun u9 hu=>?_)
   replace h:=hy92 u9 hu
   refine cq 3 [37] [aa c_1] 18 ?_
   obtain⟨r10,hr10,h⟩:=bS h
   refine oq 34 (.hs 18 0 [] 1 0 (r10.map str).length) rfl (cP (WN hr10)) ?_
   refine oq 50 (I (len r10)) rfl (bw rfl rfl rfl (nG (f:=str) (xs:=r10) rfl rfl)) ?_
   refine cq 3 [2] [B (decide ((len r10)≤16))] 82 ?_
   obtain rfl:=sI h
   exact rP [B (decide ((len r10)≤16))]
 have r3:∀r',y3=.inl r'→∀st,vl c_1 r' st→(vl c_1 r) st:=fun r' e st hq=>by rw[hy31 r' e] at hq;exact hq
 replace h:=hy3
 refine sp 9 h rfl ?_ ?_<;>intro h
 ·refine cq 5 [13] [B true] 193 ?_
  exact rf [1,13] [1] (j3 _ (an h) :)
 ·refine cq 1 [10] [aa c_1] 145 ?_
  obtain⟨r11,hr11,h⟩:=bS h
  refine oy 161 (B r11) rfl (cP (afN hr11)) ?_
  refine cq 3 [13] [B (!r11)] 193 ?_
  exact rf [1,13] [1] (j3 _ (an h) :)
theorem WM {G:b7}:bZ G 43 DP:=gT 1 0 (aO gE (aO KJ (aO WG (aO KK (aO WQ bv))))) cf Tryz.func43 (fun a r h=>Z6 a r h)
def Hd:(List ae)→List V:=oA (gj str)
def Hf (r:Bool):V×List V:=(B r,[])
noncomputable def DA :=bi [false] Hd Hf fun x=>Dz x
theorem afF {ay:List ae}{r}(h:Dz ay=some r):DA.F (Hd ay)=some (Hf r):=aJ (aK (cn bQ)) h
noncomputable def Wn :=aH Tryz.f122
noncomputable abbrev ls :=cL (cL (cR (cL (cR Wn))))
noncomputable def uZ :=ce [(80,pY)]
def He (x:(List ae))(r:Bool):St→Prop:=QF uZ Tryz.f122 [false] (Hd x) (Hf r)
theorem Qa (ay:List ae):cj uZ 0 (He ay) ls 0 (jr ay) (fun u=>(sT 39 [(0,.isl false (ay.map str))] [] 1)) fun x2=>(sT 39 [(0,.isl false (ay.map str)),(3,I x2)] [] 1):=ef (Bg ay) fun {Q K} hK self ih x2 y h hr hn=>by
 unfold kA at h
 refine cq 5 [4,5] [I x2,.isl false (ay.map str)] 33 ?_
 refine oq 49 (I (len ay)) rfl (bw rfl rfl rfl (bN rfl)) ?_
 refine cq 2 [8] [B (decide (x2<(len ay)))] 81 ?_
 obtain⟨u3,hu3,h⟩:=lJ h
 have j3:Run uZ 0 Q (.code (cR (cL ls))::.code (cR ls)::.lp ls::.blk 0::K) (sT 39 [(0,.isl false (ay.map str)),(3,I x2),(11,B u3)] [] 1):=by
  refine sq h ?_ ?_<;>intro h
  ·refine aq 1 ?_
   refine aq 3 ?_
   refine eb [0,0,3,7,15,31,63,127,255,511,1023,1023,3071,8191,16383,1023,1023,99327,230399,524287,1048575,2097151] rfl (by decide +kernel) ?_
   refine dk 2 [15,14] [I x2,.isl false (ay.map str)] ?_
   obtain⟨e4,he4,h⟩:=bS h
   refine dq [] [] (.iptr (str e4) 0) rfl (al rfl rfl rfl (bo rfl rfl rfl rfl he4)) ?_
   refine dq [] [] (str e4) rfl (aX rfl rfl) ?_
   obtain⟨r5,hr5,h⟩:=bS h
   refine dq [] [] (B r5) rfl (cP (sr hr5)) ?_ (d3 rfl rfl rfl rfl (bg (bT rfl) cX) (sr hr5) (.inr rfl) rfl)
   refine dk 2 [20,19] [B (!r5),B (!r5)] ?_
   obtain⟨y6,hy6,hy61,hy62⟩:=bL h
   have j6:∀u6,y6=.inr u6→Run uZ 0 Q (.code (cR (cL (cL (cR ls))))::.blk 1::.code (cR (cR ls))::.lp ls::.blk 0::K) (sT 39 [(0,.isl false (ay.map str)),(3,I x2),(35,B u6)] [] 1):=by
    intro u6 hu
    replace h:=hy62 u6 hu
    refine sq h ?_ ?_<;>intro h
    ·refine cq 4 [2] [B false] 17 ?_
     exact b8 rfl (hr _ (an h) _ (qp [B false]))
    ·refine aq 1 ?_
     refine cq 6 [3] [I (ac (x2+1))] 49 ?_
     refine cY ?_
     exact rf [0,3] [] (ih _ _ h hr hn :)
   have r6:∀r',y6=.inl r'→∀st,He ay r' st→Q st:=fun r' e st hq=>hr r' (hy61 r' e) st hq
   replace h:=hy6
   refine sp 20 h rfl ?_ ?_<;>intro h
   ·refine dk 15 [35,34,33,32,31,30,29,28,27,26,25,24,23,22,21] [B true,.und,.und,.und,.und,.und,.und,.und,.und,.und,.und,.und,.und,.und,.und] ?_
    refine de 353 rfl rfl ?_
    exact rf [0,3,35] [] (j6 _ (an h) :)
   ·refine dk 3 [23,22,21] [B (decide (x2>0)),B (decide (x2>0)),I x2] ?_
    obtain⟨y7,hy7,hy71,hy72⟩:=bL h
    have j7:∀u7,y7=.inr u7→Run uZ 0 Q (.code (cR (cL (cL (cR ls))))::.blk 1::.code (cR (cR ls))::.lp ls::.blk 0::K) (sT 39 [(0,.isl false (ay.map str)),(3,I x2),(35,B u7)] [] 1):=by
     intro u7 hu
     replace h:=hy72 u7 hu
     exact rf [0,3,35] [] (j6 _ (an h) :)
    have r7:∀r',y7=.inl r'→∀st,He ay r' st→Q st:=fun r' e st hq=>r6 r' (hy71 r' e) st hq
    replace h:=hy7
    refine sp 23 h rfl ?_ ?_<;>intro h
    ·refine dk 3 [26,25,24] [I (ac (x2 - 1)),I x2,.isl false (ay.map str)] ?_
     obtain⟨e8,he8,h⟩:=bS h
     refine dy [] [] (.iptr (str e8) 0) rfl (al rfl rfl rfl (bo rfl rfl rfl rfl he8)) ?_
     refine dy [] [] (str e8) rfl (aX rfl rfl) ?_
     refine dk 2 [30,29] [I x2,.isl false (ay.map str)] ?_
     obtain⟨e9,he9,h⟩:=bS h
     refine dy [] [] (.iptr (str e9) 0) rfl (al rfl rfl rfl (bo rfl rfl rfl rfl he9)) ?_
     refine dy [] [] (str e9) rfl (aX rfl rfl) ?_
     refine dk 3 [35,34,33] [B (!(Op.bytesLess e8 e9)),B (!(Op.bytesLess e8 e9)),B (!(Op.bytesLess e8 e9))] ?_
     refine de 353 rfl rfl ?_
     exact rf [0,3,35] [] (j7 _ (an h) :)
    ·refine dk 12 [35,34,33,32,31,30,29,28,27,26,25,24] [B false,B false,.und,.und,.und,.und,.und,.und,.und,.und,.und,.und] ?_
     refine de 353 rfl rfl ?_
     exact rf [0,3,35] [] (j7 _ (an h) :)
  ·refine aq 1 ?_
   exact rf [0] [] (hn _ (an h) :) (hk:=hK)
 replace h:=hu3
 clear hu3
 refine sp 8 h rfl ?_ ?_<;>intro h
 ·refine cq 4 [11] [B (decide (x2≤16))] 129 ?_
  subst h
  exact rf [0,3,11] [] (j3 :)
 ·refine cq 4 [11] [B false] 129 ?_
  subst h
  exact rf [0,3,11] [] (j3 :)
theorem ZP (ay:List ae)(r:Bool)(h:Dz ay=some r):br uZ Tryz.f122 [false] 0 (Hd ay) (Hf r):=by
 show Run _ _ (He ay r) [.code Wn] _
 refine rI 39 [(0,.isl false (ay.map str))] [] 1 ?_
 unfold Dz at h
 refine cq 10 [3] [I (0)] 33 ?_
 obtain⟨y10,hy10,hy101,hy102⟩:=bJ h
 refine bO rfl ?_
 refine rf [0,3] [] (Qa ay rfl 0 _ hy10 (fun r' e st hq=>by rw[hy101 r' e] at hq;exact hq) fun u10 hu=>?_)
 replace h:=hy102 u10 hu
 refine cq 3 [36] [.isl false (ay.map str)] 17 ?_
 refine oq 33 (I (len ay)) rfl (bw rfl rfl rfl (bN rfl)) ?_
 refine cq 3 [2] [B (decide ((len ay)≤16))] 65 ?_
 obtain rfl:=sI h
 exact rP [B (decide ((len ay)≤16))]
theorem Wo {G:b7}:bZ G 122 DA:=gT 1 0 (aO tf bv) cf Tryz.func122 (fun a r h=>ZP a r h)
def HA:(Contract×Int)→List V:=cA aP (oA I)
def HB (r:Bool):V×List V:=(B r,[])
noncomputable def DM :=bi [false,false] HA HB fun x=>DL x.1 x.2
theorem afL {c_1:Contract}{i_2:Int}{r}(h:DL c_1 i_2=some r):DM.F (HA (c_1,i_2))=some (HB r):=aJ (aN bb (aK bc)) h
noncomputable def WI :=aH Tryz.f156
noncomputable def NL :=ce []
def WH (x:Contract×Int)(r:Bool):St→Prop:=QF NL Tryz.f156 [false,false] (HA x) (HB r)
theorem Qh (c_1:Contract)(i_2:Int):cj NL 0 (WH (c_1,i_2)) (cL (cL (cR (cL (cR WI))))) 0 (vj c_1 i_2) (fun u=>(sT 26 [] [] 1)) fun x3=>(sT 26 [(1,I i_2),(2,.hp 1 0 [] 2 0 0),(5,I x3)] [⟨0,2,[aa c_1]⟩] 2):=ef (Bn c_1 i_2) fun {Q K} hK self ih x3 y h hr hn=>by
 unfold oJ at h
 refine cq 6 [6,8] [I x3,.isl false (c_1.Clauses.map au)] 50 ?_
 refine oq 66 (I (len c_1.Clauses)) rfl (bw rfl rfl rfl (bN rfl)) ?_
 refine cq 2 [10] [B (decide (x3<(len c_1.Clauses)))] 82 ?_
 refine sq h ?_ ?_<;>intro h
 ·refine aq 1 ?_
  refine aq 3 ?_
  refine eb [0,1,0,7,15,31,0,64,0,448,960,1984,4095] rfl (by decide +kernel) ?_
  refine dq [1] [] (.hp 1 0 [] 2 0 1) rfl (az rfl rfl rfl) ?_
  refine dq [1] [] (.isl false (c_1.Clauses.map au)) rfl (aX rfl rfl) ?_
  refine dk 1 [15] [I x3] ?_
  obtain⟨e4,he4,h⟩:=bS h
  refine dq [] [] (.iptr (aB e4) 0) rfl (al rfl rfl rfl (bo rfl rfl rfl rfl he4)) ?_
  refine dq [] [] (.iptr (aB e4) 11) rfl (az rfl rfl rfl) ?_
  refine dq [] [] (str e4.Repair) rfl (aX rfl rfl) ?_
  refine dq [1] [] (.hp 1 0 [] 2 0 1) rfl (az rfl rfl rfl) ?_
  refine dq [1] [] (.isl false (c_1.Clauses.map au)) rfl (aX rfl rfl) ?_
  refine dk 1 [21] [I i_2] ?_
  obtain⟨e5,he5,h⟩:=bS h
  refine dq [] [] (.iptr (aB e5) 0) rfl (al rfl rfl rfl (bo rfl rfl rfl rfl he5)) ?_
  refine dq [] [] (.iptr (aB e5) 0) rfl (az rfl rfl rfl) ?_
  refine dq [] [] (str e5.Id) rfl (aX rfl rfl) ?_
  refine dk 1 [25] [B (e4.Repair==e5.Id)] ?_
  refine de 290 rfl rfl ?_
  refine sq h ?_ ?_<;>intro h
  ·refine cq 4 [4] [B true] 306 ?_
   exact b8 rfl (hr _ (an h) _ (qp [B true]))
  ·refine aq 1 ?_
   refine cq 6 [5] [I (ac (x3+1))] 338 ?_
   refine cY ?_
   exact rf [1,2,5] [1] (ih _ _ h hr hn :)
 ·refine aq 1 ?_
  exact rf [] [] (hn _ (an h) :) (hk:=hK)
theorem Z4 (c_1:Contract)(i_2:Int)(r:Bool)(h:DL c_1 i_2=some r):br NL Tryz.f156 [false,false] 0 (HA (c_1,i_2)) (HB r):=by
 show Run _ _ (WH (c_1,i_2) r) [.code WI] _
 refine rI 26 [(0,aa c_1),(1,I i_2)] [] 1 ?_
 unfold DL at h
 refine ck 11 [2,5] [] [1] [] [.hp 1 0 [] 2 0 0,I (0)] [some ⟨0,2,[aa c_1]⟩] 49 (by kernel_rfl) ?_
 obtain⟨y6,hy6,hy61,hy62⟩:=bJ h
 refine bO rfl ?_
 refine rf [1,2,5] [1] (Qh c_1 i_2 rfl 0 _ hy6 (fun r' e st hq=>by rw[hy61 r' e] at hq;exact hq) fun u6 hu=>?_)
 replace h:=hy62 u6 hu
 refine cq 4 [4] [B false] 17 ?_
 obtain rfl:=sI h
 exact rP [B false]
theorem WJ {G:b7}:bZ G 156 DM:=gT 2 0 bv cf Tryz.func156 (fun a r h=>Z4 a.1 a.2 r h)
def HP:(State×Int)→List V:=cA bH (oA I)
def HR (r:Int):V×List V:=(I r,[])
noncomputable def DS :=bi [false,false] HP HR fun x=>DR x.1 x.2
theorem afO {s_1:State}{i_2:Int}{r}(h:DR s_1 i_2=some r):DS.F (HP (s_1,i_2))=some (HR r):=aJ (aN cd (aK bc)) h
noncomputable def WS :=aH Tryz.f157
noncomputable abbrev JO :=cL (cL (cR (cL (cR (cR WS)))))
noncomputable def HQ :=ce []
def WR (x:State×Int)(r:Int):St→Prop:=QF HQ Tryz.f157 [false,false] (HP x) (HR r)
theorem Qm (s_1:State)(i_2:Int):cj HQ 0 (WR (s_1,i_2)) JO 0 (mO s_1 i_2) (fun u=>(sT 25 [(5,I u)] [] 1)) fun x3=>(sT 25 [(1,I i_2),(2,.hp 1 0 [] 5 0 0),(5,I x3.1),(6,I x3.2)] [⟨0,5,[ai s_1]⟩] 2):=ef (Bs s_1 i_2) fun {Q K} hK self ih x3 y h hr hn=>by
 unfold mg at h
 refine cq 6 [7,9] [I x3.2,.isl false (s_1.Duties.map ah)] 50 ?_
 refine oq 66 (I (len s_1.Duties)) rfl (bw rfl rfl rfl (bN rfl)) ?_
 refine cq 2 [11] [B (decide (x3.2<(len s_1.Duties)))] 82 ?_
 refine sq h ?_ ?_<;>intro h
 ·refine aq 1 ?_
  refine cq 7 [15,16] [.isl false (s_1.Duties.map ah),I x3.2] 130 ?_
  obtain⟨e4,he4,h⟩:=bS h
  refine oq 146 (.iptr (ah e4) 0) rfl (al rfl rfl rfl (bo rfl rfl rfl rfl he4)) ?_
  refine cq 5 [21] [B (e4.Clause==i_2)] 210 ?_
  obtain⟨u5,hu5,h⟩:=lJ h
  have j5:Run HQ 0 Q (.blk 1::.code (cR (cR JO))::.lp JO::.blk 0::K) (sT 25 [(1,I i_2),(2,.hp 1 0 [] 5 0 0),(5,I u5),(6,I x3.2)] [⟨0,5,[ai s_1]⟩] 2):=by
   refine cq 6 [6] [I (ac (x3.2+1))] 50 ?_
   refine cY ?_
   exact rf [1,2,5,6] [1] (ih _ _ h hr hn :)
  replace h:=hu5
  clear hu5
  refine tG h rfl rfl ?_ ?_<;>intro h
  ·refine cq 5 [5] [I (ac (x3.1+1))] 258 ?_
   subst h
   exact rf [1,2,5,6] [1] (j5 :)
  ·refine aq 1 ?_
   subst h
   exact rf [1,2,5,6] [1] (j5 :)
 ·refine aq 1 ?_
  exact rf [5] [] (hn _ (an h) :) (hk:=hK)
theorem Z9 (s_1:State)(i_2:Int)(r:Int)(h:DR s_1 i_2=some r):br HQ Tryz.f157 [false,false] 0 (HP (s_1,i_2)) (HR r):=by
 show Run _ _ (WR (s_1,i_2) r) [.code WS] _
 refine rI 25 [(0,ai s_1),(1,I i_2)] [] 1 ?_
 unfold DR at h
 refine ck 15 [2,5,6] [] [1] [] [.hp 1 0 [] 5 0 0,I (0),I (0)] [some ⟨0,5,[ai s_1]⟩] 65 (by kernel_rfl) ?_
 obtain⟨y6,hy6,hy61,hy62⟩:=bJ h
 refine bO rfl ?_
 refine rf [1,2,5,6] [1] (Qm s_1 i_2 rfl (0,0) _ hy6 (fun r' e st hq=>by rw[hy61 r' e] at hq;exact hq) fun u6 hu=>?_)
 replace h:=hy62 u6 hu
 refine cq 5 [4] [I u6] 33 ?_
 obtain rfl:=sI h
 exact rP [I u6]
theorem WT {G:b7}:bZ G 157 DS:=gT 2 0 bv cf Tryz.func157 (fun a r h=>Z9 a.1 a.2 r h)
def HT:(Contract×State×Int)→List V:=cA aP (cA bH (oA I))
def HU (r:Bool):V×List V:=(B r,[])
noncomputable def DU :=bi [false,false,false] HT HU fun x=>DT x.1 x.2.1 x.2.2
theorem afP {c_1:Contract}{s_2:State}{k_3:Int}{r}(h:DT c_1 s_2 k_3=some r):DU.F (HT (c_1,s_2,k_3))=some (HU r):=aJ (aN bb (aN cd (aK bc))) h
noncomputable def NQ :=aH Tryz.f124
noncomputable abbrev qa :=cR (cR (cR NQ))
noncomputable abbrev vn :=cR (cL (cR (cR NQ)))
noncomputable abbrev eU :=cR qa
noncomputable abbrev eY :=cR (cL qa)
noncomputable def eD :=ce [(89,fY),(156,DM),(157,DS),(76,sj)]
def dw (x:Contract×State×Int)(r:Bool):St→Prop:=QF eD Tryz.f124 [false,false,false] (HT x) (HU r)
theorem aaa (c_1:Contract)(s_2:State)(k_3:Int)(r:Bool)(h:DT c_1 s_2 k_3=some r):br eD Tryz.f124 [false,false,false] 0 (HT (c_1,s_2,k_3)) (HU r):=by
 show Run _ _ (dw (c_1,s_2,k_3) r) [.code NQ] _
 refine rI 129 [(0,aa c_1),(1,ai s_2),(2,I k_3)] [] 1 ?_
 unfold DT at h
 refine ck 11 [3,4,9,10] [] [1,17] [] [.hp 1 0 [] 2 0 0,.hp 17 0 [] 5 0 0,.isl false (s_2.Duties.map ah),I k_3] [some ⟨0,2,[aa c_1]⟩,some ⟨0,5,[ai s_2]⟩] 97 (by kernel_rfl) ?_
 obtain⟨e4,he4,h⟩:=bS h
 refine oq 113 (.iptr (ah e4) 0) rfl (al rfl rfl rfl (bo rfl rfl rfl rfl he4)) ?_
 refine ck 6 [7] [] [129] [] [.hp 129 0 [] 4 0 0] [some ⟨0,4,[ah e4]⟩] 161 (by kernel_rfl) ?_
 refine eb [0,1,0,4,12,28,63,127,255,511,1023,511,2559,8191,16383,32767,65535,131071,262143,524287,1048575,524287,2621439,8388607,16777215,33554431,67108863,134217727,268435455,134217727,671088639,134217727,2281701375,134217727,8724152319,32346472447,66706210815,135425687551,274475253759,549755813887,1099511627775,2199023255551,4398046511103,8796093022207,17592186044415,35184372088831,70368744177663,140737488355327,281474976710655,562949953421311,1125899906842623,2251799813685247,4503599627370495] rfl (by decide +kernel) ?_
 refine dq [129] [] (.hp 129 0 [] 4 0 0) rfl (az rfl rfl rfl) ?_
 refine dq [129] [] (I e4.Clause) rfl (aX rfl rfl) ?_
 refine dq [1] [] (.hp 1 0 [] 2 0 1) rfl (az rfl rfl rfl) ?_
 refine dq [1] [] (.isl false (c_1.Clauses.map au)) rfl (aX rfl rfl) ?_
 refine dq [] [] (I (len c_1.Clauses)) rfl (bw rfl rfl rfl (bN rfl)) ?_
 refine dk 1 [18] [I (ac ((len c_1.Clauses) - 1))] ?_
 obtain⟨r5,hr5,h⟩:=bS h
 refine dq [] [] (B r5) rfl (cP (eG hr5)) ?_ (d3 rfl rfl rfl rfl (bg (bT rfl) (bg (bT rfl) (bg (bT rfl) cX))) (eG hr5) (.inr rfl) rfl)
 refine dk 2 [21,20] [B (!r5),B (!r5)] ?_
 obtain⟨y6,hy6,hy61,hy62⟩:=bJ h
 have j6:∀u6,y6=.inr u6→Run eD 0 (dw (c_1,s_2,k_3) r) (.code vn::.code qa::[]) (sT 129 [(2,I k_3),(3,.hp 1 0 [] 2 0 0),(4,.hp 2 0 [] 5 0 0),(7,.hp 3 0 [] 4 0 0),(65,B u6)] [⟨0,2,[aa c_1]⟩,⟨0,5,[ai s_2]⟩,⟨0,4,[ah e4]⟩] 4):=by
  intro u6 hu
  replace h:=hy62 u6 hu
  refine sq h ?_ ?_<;>intro h
  ·refine cq 4 [6] [B false] 20 ?_
   obtain rfl:=sI h
   exact rP [B false]
  ·refine aq 1 ?_
   refine aq 2 ?_
   refine eb [0,1,3,7,15,7,39,127,255,511,7,1031,4095,8191,16383,32767,65535,131071,262143,524287,1048575,524287,2621439,8388607,16777215,33554431,67108863,134217727,268435455,536870911,1073741823,2147483647,4294967295,8589934591,17179869183,34359738367,68719476735,34359738367,171798691839,549755813887,1099511627775,2199023255551,4398046511103,8796093022207,17592186044415,35184372088831,70368744177663,140737488355327,281474976710655,562949953421311,1125899906842623,2251799813685247] rfl (by decide +kernel) ?_
   refine dk 3 [68,67,66] [B (decide (k_3>0)),B (decide (k_3>0)),I k_3] ?_
   obtain⟨y7,hy7,hy71,hy72⟩:=bJ h
   have j7:∀u7,y7=.inr u7→Run eD 0 (dw (c_1,s_2,k_3) r) (.code eY::.code eU::[]) (sT 129 [(3,.hp 1 0 [] 2 0 0),(4,.hp 2 0 [] 5 0 0),(7,.hp 3 0 [] 4 0 0),(117,B u7)] [⟨0,2,[aa c_1]⟩,⟨0,5,[ai s_2]⟩,⟨0,4,[ah e4]⟩] 4):=by
    intro u7 hu
    replace h:=hy72 u7 hu
    refine sq h ?_ ?_<;>intro h
    ·refine cq 4 [6] [B false] 20 ?_
     obtain rfl:=sI h
     exact rP [B false]
    ·refine aq 1 ?_
     refine cq 5 [118,120] [aa c_1,I e4.Clause] 52 ?_
     obtain⟨r8,hr8,h⟩:=bS h
     refine oq 68 (B r8) rfl (cP (afL hr8)) ?_
     refine cq 1 [122] [B r8] 84 ?_
     obtain⟨y9,hy9,hy91,hy92⟩:=bJ h
     have j9:∀u9,y9=.inr u9→Run eD 0 (dw (c_1,s_2,k_3) r) (.code (cR eU)::[]) (sT 129 [(6,B u9)] [] 1):=by
      intro u9 hu
      replace h:=hy92 u9 hu
      obtain rfl:=sI h
      exact rP [B u9]
     have r9:∀r',y9=.inl r'→∀st,dw (c_1,s_2,k_3) r' st→(dw (c_1,s_2,k_3) r) st:=fun r' e st hq=>by rw[hy91 r' e] at hq;exact hq
     replace h:=hy9
     refine sp 122 h rfl ?_ ?_<;>intro h
     ·refine cq 8 [6] [B true] 196 ?_
      exact rf [6] [] (j9 _ (an h) :)
     ·refine cq 3 [123,125] [ai s_2,I e4.Clause] 132 ?_
      obtain⟨r10,hr10,h⟩:=bS h
      refine oy 148 (I r10) rfl (cP (afO hr10)) ?_
      refine cq 4 [6] [B (r10==1)] 196 ?_
      exact rf [6] [] (j9 _ (an h) :)
   have r7:∀r',y7=.inl r'→∀st,dw (c_1,s_2,k_3) r' st→(dw (c_1,s_2,k_3) r) st:=fun r' e st hq=>by rw[hy71 r' e] at hq;exact hq
   replace h:=hy7
   refine sp 68 h rfl ?_ ?_<;>intro h
   ·refine dy [2] [] (.hp 2 0 [] 5 0 2) rfl (az rfl rfl rfl) ?_
    refine dy [2] [] (.isl false (s_2.Duties.map ah)) rfl (aX rfl rfl) ?_
    refine dk 2 [72,71] [I (ac (k_3 - 1)),I k_3] ?_
    obtain⟨e11,he11,h⟩:=bS h
    refine dy [] [] (.iptr (ah e11) 0) rfl (al rfl rfl rfl (bo rfl rfl rfl rfl he11)) ?_
    refine dy [] [] (.iptr (ah e11) 1) rfl (az rfl rfl rfl) ?_
    refine dy [] [] (I e11.Since) rfl (aX rfl rfl) ?_
    refine dy [3] [] (.hp 3 0 [] 4 0 1) rfl (az rfl rfl rfl) ?_
    refine dy [3] [] (I e4.Since) rfl (aX rfl rfl) ?_
    refine dk 3 [80,79,78] [B (decide (e11.Since>e4.Since)),B (decide (e11.Since>e4.Since)),B (decide (e11.Since>e4.Since))] ?_
    obtain⟨u12,hu12,h⟩:=lJ h
    have j12:Run eD 0 (dw (c_1,s_2,k_3) r) (.code eY::.code eU::[]) (sT 129 [(3,.hp 1 0 [] 2 0 0),(4,.hp 2 0 [] 5 0 0),(7,.hp 3 0 [] 4 0 0),(117,B u12)] [⟨0,2,[aa c_1]⟩,⟨0,5,[ai s_2]⟩,⟨0,4,[ah e4]⟩] 4):=by
     exact rf [3,4,7,117] [1,2,3] (j7 _ (an h) :)
    replace h:=hu12
    clear hu12
    refine sp 80 h rfl ?_ ?_<;>intro h
    ·refine dk 37 [117,116,115,114,113,112,111,110,109,108,107,106,105,104,103,102,101,100,99,98,97,96,95,94,93,92,91,90,89,88,87,86,85,84,83,82,81] [B true,.und,.und,.und,.und,.und,.und,.und,.und,B true,B true,.und,.und,.und,.und,.und,.und,.und,.und,.und,.und,B true,B true,.und,.und,.und,.und,.und,.und,.und,.und,.und,.und,.und,.und,.und,.und] ?_
     refine de 836 rfl rfl ?_
     subst h
     exact rf [3,4,7,117] [1,2,3] (j12 :)
    ·refine dy [3] [] (.hp 3 0 [] 4 0 3) rfl (az rfl rfl rfl) ?_
     refine dy [3] [] (I e4.Status) rfl (aX rfl rfl) ?_
     refine dk 2 [84,83] [B (e4.Status==1),B (e4.Status==1)] ?_
     obtain⟨u13,hu13,h⟩:=lJ h
     have j13:Run eD 0 (dw (c_1,s_2,k_3) r) (.code eY::.code eU::[]) (sT 129 [(3,.hp 1 0 [] 2 0 0),(4,.hp 2 0 [] 5 0 0),(7,.hp 3 0 [] 4 0 0),(117,B u13)] [⟨0,2,[aa c_1]⟩,⟨0,5,[ai s_2]⟩,⟨0,4,[ah e4]⟩] 4):=by
      subst h
      exact rf [3,4,7,117] [1,2,3] (j12 :)
     replace h:=hu13
     clear hu13
     refine sp 84 h rfl ?_ ?_<;>intro h
     ·refine dy [3] [] (.hp 3 0 [] 4 0 2) rfl (az rfl rfl rfl) ?_
      refine dy [3] [] (I e4.Due) rfl (aX rfl rfl) ?_
      refine dy [2] [] (.hp 2 0 [] 5 0 0) rfl (az rfl rfl rfl) ?_
      refine dy [2] [] (I s_2.Day) rfl (aX rfl rfl) ?_
      refine dk 2 [90,89] [B (decide (e4.Due<s_2.Day)),B (decide (e4.Due<s_2.Day))] ?_
      obtain⟨u14,hu14,h⟩:=lJ h
      have j14:Run eD 0 (dw (c_1,s_2,k_3) r) (.code eY::.code eU::[]) (sT 129 [(3,.hp 1 0 [] 2 0 0),(4,.hp 2 0 [] 5 0 0),(7,.hp 3 0 [] 4 0 0),(117,B u14)] [⟨0,2,[aa c_1]⟩,⟨0,5,[ai s_2]⟩,⟨0,4,[ah e4]⟩] 4):=by
       subst h
       exact rf [3,4,7,117] [1,2,3] (j13 :)
      replace h:=hu14
      clear hu14
      refine sp 90 h rfl ?_ ?_<;>intro h
      ·refine dk 27 [117,116,115,114,113,112,111,110,109,108,107,106,105,104,103,102,101,100,99,98,97,96,95,94,93,92,91] [B true,.und,.und,.und,.und,.und,.und,.und,.und,B true,B true,.und,.und,.und,.und,.und,.und,.und,.und,.und,.und,B true,B true,B true,B true,.und,.und] ?_
       refine de 836 rfl rfl ?_
       subst h
       exact rf [3,4,7,117] [1,2,3] (j14 :)
      ·refine dy [2] [] (.hp 2 0 [] 5 0 4) rfl (az rfl rfl rfl) ?_
       refine dy [2] [] (B s_2.Over) rfl (aX rfl rfl) ?_
       refine dk 4 [96,95,94,93] [B s_2.Over,B s_2.Over,B s_2.Over,B s_2.Over] ?_
       obtain⟨u15,hu15,h⟩:=lJ h
       have j15:Run eD 0 (dw (c_1,s_2,k_3) r) (.code eY::.code eU::[]) (sT 129 [(3,.hp 1 0 [] 2 0 0),(4,.hp 2 0 [] 5 0 0),(7,.hp 3 0 [] 4 0 0),(117,B u15)] [⟨0,2,[aa c_1]⟩,⟨0,5,[ai s_2]⟩,⟨0,4,[ah e4]⟩] 4):=by
        subst h
        exact rf [3,4,7,117] [1,2,3] (j14 :)
       replace h:=hu15
       clear hu15
       refine sp 96 h rfl ?_ ?_<;>intro h
       ·refine dk 21 [117,116,115,114,113,112,111,110,109,108,107,106,105,104,103,102,101,100,99,98,97] [B true,.und,.und,.und,.und,.und,.und,.und,.und,B true,B true,.und,.und,.und,.und,.und,.und,.und,.und,.und,.und] ?_
        refine de 836 rfl rfl ?_
        subst h
        exact rf [3,4,7,117] [1,2,3] (j15 :)
       ·refine dy [3] [] (.hp 3 0 [] 4 0 3) rfl (az rfl rfl rfl) ?_
        refine dy [3] [] (I e4.Status) rfl (aX rfl rfl) ?_
        refine dk 2 [100,99] [B (e4.Status==3),B (e4.Status==3)] ?_
        obtain⟨u16,hu16,h⟩:=lJ h
        have j16:Run eD 0 (dw (c_1,s_2,k_3) r) (.code eY::.code eU::[]) (sT 129 [(3,.hp 1 0 [] 2 0 0),(4,.hp 2 0 [] 5 0 0),(7,.hp 3 0 [] 4 0 0),(117,B u16)] [⟨0,2,[aa c_1]⟩,⟨0,5,[ai s_2]⟩,⟨0,4,[ah e4]⟩] 4):=by
         subst h
         exact rf [3,4,7,117] [1,2,3] (j15 :)
        replace h:=hu16
        clear hu16
        refine sp 100 h rfl ?_ ?_<;>intro h
        ·refine dy [3] [] (.hp 3 0 [] 4 0 2) rfl (az rfl rfl rfl) ?_
         refine dy [3] [] (I e4.Due) rfl (aX rfl rfl) ?_
         refine dy [2] [] (.hp 2 0 [] 5 0 0) rfl (az rfl rfl rfl) ?_
         refine dy [2] [] (I s_2.Day) rfl (aX rfl rfl) ?_
         refine dk 4 [108,107,106,105] [B (decide (e4.Due≥s_2.Day)),B (decide (e4.Due≥s_2.Day)),B (decide (e4.Due≥s_2.Day)),B (decide (e4.Due≥s_2.Day))] ?_
         obtain⟨u17,hu17,h⟩:=lJ h
         have j17:Run eD 0 (dw (c_1,s_2,k_3) r) (.code eY::.code eU::[]) (sT 129 [(3,.hp 1 0 [] 2 0 0),(4,.hp 2 0 [] 5 0 0),(7,.hp 3 0 [] 4 0 0),(117,B u17)] [⟨0,2,[aa c_1]⟩,⟨0,5,[ai s_2]⟩,⟨0,4,[ah e4]⟩] 4):=by
          subst h
          exact rf [3,4,7,117] [1,2,3] (j16 :)
         replace h:=hu17
         clear hu17
         refine sp 108 h rfl ?_ ?_<;>intro h
         ·refine dk 9 [117,116,115,114,113,112,111,110,109] [B true,.und,.und,.und,.und,.und,.und,.und,.und] ?_
          refine de 836 rfl rfl ?_
          subst h
          exact rf [3,4,7,117] [1,2,3] (j17 :)
         ·refine dy [3] [] (.hp 3 0 [] 4 0 3) rfl (az rfl rfl rfl) ?_
          refine dy [3] [] (I e4.Status) rfl (aX rfl rfl) ?_
          refine dk 2 [112,111] [B (e4.Status==4),B (e4.Status==4)] ?_
          obtain⟨u18,hu18,h⟩:=lJ h
          have j18:Run eD 0 (dw (c_1,s_2,k_3) r) (.code eY::.code eU::[]) (sT 129 [(3,.hp 1 0 [] 2 0 0),(4,.hp 2 0 [] 5 0 0),(7,.hp 3 0 [] 4 0 0),(117,B u18)] [⟨0,2,[aa c_1]⟩,⟨0,5,[ai s_2]⟩,⟨0,4,[ah e4]⟩] 4):=by
           subst h
           exact rf [3,4,7,117] [1,2,3] (j17 :)
          replace h:=hu18
          clear hu18
          refine sp 112 h rfl ?_ ?_<;>intro h
          ·refine dy [2] [] (.hp 2 0 [] 5 0 4) rfl (az rfl rfl rfl) ?_
           refine dy [2] [] (B s_2.Over) rfl (aX rfl rfl) ?_
           refine dk 3 [117,116,115] [B (!s_2.Over),B (!s_2.Over),B (!s_2.Over)] ?_
           refine de 836 rfl rfl ?_
           subst h
           exact rf [3,4,7,117] [1,2,3] (j18 :)
          ·refine dk 5 [117,116,115,114,113] [B false,B false,.und,.und,.und] ?_
           refine de 836 rfl rfl ?_
           subst h
           exact rf [3,4,7,117] [1,2,3] (j18 :)
        ·refine dk 8 [108,107,106,105,104,103,102,101] [B false,B false,B false,.und,.und,.und,.und,.und] ?_
         refine dy [3] [] (.hp 3 0 [] 4 0 3) rfl (az rfl rfl rfl) ?_
         refine dy [3] [] (I e4.Status) rfl (aX rfl rfl) ?_
         refine dk 2 [112,111] [B (e4.Status==4),B (e4.Status==4)] ?_
         obtain⟨u19,hu19,h⟩:=lJ h
         have j19:Run eD 0 (dw (c_1,s_2,k_3) r) (.code eY::.code eU::[]) (sT 129 [(3,.hp 1 0 [] 2 0 0),(4,.hp 2 0 [] 5 0 0),(7,.hp 3 0 [] 4 0 0),(117,B u19)] [⟨0,2,[aa c_1]⟩,⟨0,5,[ai s_2]⟩,⟨0,4,[ah e4]⟩] 4):=by
          subst h
          exact rf [3,4,7,117] [1,2,3] (j16 :)
         replace h:=hu19
         clear hu19
         refine sp 112 h rfl ?_ ?_<;>intro h
         ·refine dy [2] [] (.hp 2 0 [] 5 0 4) rfl (az rfl rfl rfl) ?_
          refine dy [2] [] (B s_2.Over) rfl (aX rfl rfl) ?_
          refine dk 3 [117,116,115] [B (!s_2.Over),B (!s_2.Over),B (!s_2.Over)] ?_
          refine de 836 rfl rfl ?_
          subst h
          exact rf [3,4,7,117] [1,2,3] (j19 :)
         ·refine dk 5 [117,116,115,114,113] [B false,B false,.und,.und,.und] ?_
          refine de 836 rfl rfl ?_
          subst h
          exact rf [3,4,7,117] [1,2,3] (j19 :)
     ·refine dk 12 [96,95,94,93,92,91,90,89,88,87,86,85] [B false,B false,B false,.und,.und,.und,.und,.und,.und,.und,.und,.und] ?_
      refine dy [3] [] (.hp 3 0 [] 4 0 3) rfl (az rfl rfl rfl) ?_
      refine dy [3] [] (I e4.Status) rfl (aX rfl rfl) ?_
      refine dk 2 [100,99] [B (e4.Status==3),B (e4.Status==3)] ?_
      obtain⟨u20,hu20,h⟩:=lJ h
      have j20:Run eD 0 (dw (c_1,s_2,k_3) r) (.code eY::.code eU::[]) (sT 129 [(3,.hp 1 0 [] 2 0 0),(4,.hp 2 0 [] 5 0 0),(7,.hp 3 0 [] 4 0 0),(117,B u20)] [⟨0,2,[aa c_1]⟩,⟨0,5,[ai s_2]⟩,⟨0,4,[ah e4]⟩] 4):=by
       subst h
       exact rf [3,4,7,117] [1,2,3] (j13 :)
      replace h:=hu20
      clear hu20
      refine sp 100 h rfl ?_ ?_<;>intro h
      ·refine dy [3] [] (.hp 3 0 [] 4 0 2) rfl (az rfl rfl rfl) ?_
       refine dy [3] [] (I e4.Due) rfl (aX rfl rfl) ?_
       refine dy [2] [] (.hp 2 0 [] 5 0 0) rfl (az rfl rfl rfl) ?_
       refine dy [2] [] (I s_2.Day) rfl (aX rfl rfl) ?_
       refine dk 4 [108,107,106,105] [B (decide (e4.Due≥s_2.Day)),B (decide (e4.Due≥s_2.Day)),B (decide (e4.Due≥s_2.Day)),B (decide (e4.Due≥s_2.Day))] ?_
       obtain⟨u21,hu21,h⟩:=lJ h
       have j21:Run eD 0 (dw (c_1,s_2,k_3) r) (.code eY::.code eU::[]) (sT 129 [(3,.hp 1 0 [] 2 0 0),(4,.hp 2 0 [] 5 0 0),(7,.hp 3 0 [] 4 0 0),(117,B u21)] [⟨0,2,[aa c_1]⟩,⟨0,5,[ai s_2]⟩,⟨0,4,[ah e4]⟩] 4):=by
        subst h
        exact rf [3,4,7,117] [1,2,3] (j20 :)
       replace h:=hu21
       clear hu21
       refine sp 108 h rfl ?_ ?_<;>intro h
       ·refine dk 9 [117,116,115,114,113,112,111,110,109] [B true,.und,.und,.und,.und,.und,.und,.und,.und] ?_
        refine de 836 rfl rfl ?_
        subst h
        exact rf [3,4,7,117] [1,2,3] (j21 :)
       ·refine dy [3] [] (.hp 3 0 [] 4 0 3) rfl (az rfl rfl rfl) ?_
        refine dy [3] [] (I e4.Status) rfl (aX rfl rfl) ?_
        refine dk 2 [112,111] [B (e4.Status==4),B (e4.Status==4)] ?_
        obtain⟨u22,hu22,h⟩:=lJ h
        have j22:Run eD 0 (dw (c_1,s_2,k_3) r) (.code eY::.code eU::[]) (sT 129 [(3,.hp 1 0 [] 2 0 0),(4,.hp 2 0 [] 5 0 0),(7,.hp 3 0 [] 4 0 0),(117,B u22)] [⟨0,2,[aa c_1]⟩,⟨0,5,[ai s_2]⟩,⟨0,4,[ah e4]⟩] 4):=by
         subst h
         exact rf [3,4,7,117] [1,2,3] (j21 :)
        replace h:=hu22
        clear hu22
        refine sp 112 h rfl ?_ ?_<;>intro h
        ·refine dy [2] [] (.hp 2 0 [] 5 0 4) rfl (az rfl rfl rfl) ?_
         refine dy [2] [] (B s_2.Over) rfl (aX rfl rfl) ?_
         refine dk 3 [117,116,115] [B (!s_2.Over),B (!s_2.Over),B (!s_2.Over)] ?_
         refine de 836 rfl rfl ?_
         subst h
         exact rf [3,4,7,117] [1,2,3] (j22 :)
        ·refine dk 5 [117,116,115,114,113] [B false,B false,.und,.und,.und] ?_
         refine de 836 rfl rfl ?_
         subst h
         exact rf [3,4,7,117] [1,2,3] (j22 :)
      ·refine dk 8 [108,107,106,105,104,103,102,101] [B false,B false,B false,.und,.und,.und,.und,.und] ?_
       refine dy [3] [] (.hp 3 0 [] 4 0 3) rfl (az rfl rfl rfl) ?_
       refine dy [3] [] (I e4.Status) rfl (aX rfl rfl) ?_
       refine dk 2 [112,111] [B (e4.Status==4),B (e4.Status==4)] ?_
       obtain⟨u23,hu23,h⟩:=lJ h
       have j23:Run eD 0 (dw (c_1,s_2,k_3) r) (.code eY::.code eU::[]) (sT 129 [(3,.hp 1 0 [] 2 0 0),(4,.hp 2 0 [] 5 0 0),(7,.hp 3 0 [] 4 0 0),(117,B u23)] [⟨0,2,[aa c_1]⟩,⟨0,5,[ai s_2]⟩,⟨0,4,[ah e4]⟩] 4):=by
        subst h
        exact rf [3,4,7,117] [1,2,3] (j20 :)
       replace h:=hu23
       clear hu23
       refine sp 112 h rfl ?_ ?_<;>intro h
       ·refine dy [2] [] (.hp 2 0 [] 5 0 4) rfl (az rfl rfl rfl) ?_
        refine dy [2] [] (B s_2.Over) rfl (aX rfl rfl) ?_
        refine dk 3 [117,116,115] [B (!s_2.Over),B (!s_2.Over),B (!s_2.Over)] ?_
        refine de 836 rfl rfl ?_
        subst h
        exact rf [3,4,7,117] [1,2,3] (j23 :)
       ·refine dk 5 [117,116,115,114,113] [B false,B false,.und,.und,.und] ?_
        refine de 836 rfl rfl ?_
        subst h
        exact rf [3,4,7,117] [1,2,3] (j23 :)
   ·refine dk 12 [80,79,78,77,76,75,74,73,72,71,70,69] [B false,B false,.und,.und,.und,.und,.und,.und,.und,.und,.und,.und] ?_
    refine dy [3] [] (.hp 3 0 [] 4 0 3) rfl (az rfl rfl rfl) ?_
    refine dy [3] [] (I e4.Status) rfl (aX rfl rfl) ?_
    refine dk 2 [84,83] [B (e4.Status==1),B (e4.Status==1)] ?_
    obtain⟨u24,hu24,h⟩:=lJ h
    have j24:Run eD 0 (dw (c_1,s_2,k_3) r) (.code eY::.code eU::[]) (sT 129 [(3,.hp 1 0 [] 2 0 0),(4,.hp 2 0 [] 5 0 0),(7,.hp 3 0 [] 4 0 0),(117,B u24)] [⟨0,2,[aa c_1]⟩,⟨0,5,[ai s_2]⟩,⟨0,4,[ah e4]⟩] 4):=by
     exact rf [3,4,7,117] [1,2,3] (j7 _ (an h) :)
    replace h:=hu24
    clear hu24
    refine sp 84 h rfl ?_ ?_<;>intro h
    ·refine dy [3] [] (.hp 3 0 [] 4 0 2) rfl (az rfl rfl rfl) ?_
     refine dy [3] [] (I e4.Due) rfl (aX rfl rfl) ?_
     refine dy [2] [] (.hp 2 0 [] 5 0 0) rfl (az rfl rfl rfl) ?_
     refine dy [2] [] (I s_2.Day) rfl (aX rfl rfl) ?_
     refine dk 2 [90,89] [B (decide (e4.Due<s_2.Day)),B (decide (e4.Due<s_2.Day))] ?_
     obtain⟨u25,hu25,h⟩:=lJ h
     have j25:Run eD 0 (dw (c_1,s_2,k_3) r) (.code eY::.code eU::[]) (sT 129 [(3,.hp 1 0 [] 2 0 0),(4,.hp 2 0 [] 5 0 0),(7,.hp 3 0 [] 4 0 0),(117,B u25)] [⟨0,2,[aa c_1]⟩,⟨0,5,[ai s_2]⟩,⟨0,4,[ah e4]⟩] 4):=by
      subst h
      exact rf [3,4,7,117] [1,2,3] (j24 :)
     replace h:=hu25
     clear hu25
     refine sp 90 h rfl ?_ ?_<;>intro h
     ·refine dk 27 [117,116,115,114,113,112,111,110,109,108,107,106,105,104,103,102,101,100,99,98,97,96,95,94,93,92,91] [B true,.und,.und,.und,.und,.und,.und,.und,.und,B true,B true,.und,.und,.und,.und,.und,.und,.und,.und,.und,.und,B true,B true,B true,B true,.und,.und] ?_
      refine de 836 rfl rfl ?_
      subst h
      exact rf [3,4,7,117] [1,2,3] (j25 :)
     ·refine dy [2] [] (.hp 2 0 [] 5 0 4) rfl (az rfl rfl rfl) ?_
      refine dy [2] [] (B s_2.Over) rfl (aX rfl rfl) ?_
      refine dk 4 [96,95,94,93] [B s_2.Over,B s_2.Over,B s_2.Over,B s_2.Over] ?_
      obtain⟨u26,hu26,h⟩:=lJ h
      have j26:Run eD 0 (dw (c_1,s_2,k_3) r) (.code eY::.code eU::[]) (sT 129 [(3,.hp 1 0 [] 2 0 0),(4,.hp 2 0 [] 5 0 0),(7,.hp 3 0 [] 4 0 0),(117,B u26)] [⟨0,2,[aa c_1]⟩,⟨0,5,[ai s_2]⟩,⟨0,4,[ah e4]⟩] 4):=by
       subst h
       exact rf [3,4,7,117] [1,2,3] (j25 :)
      replace h:=hu26
      clear hu26
      refine sp 96 h rfl ?_ ?_<;>intro h
      ·refine dk 21 [117,116,115,114,113,112,111,110,109,108,107,106,105,104,103,102,101,100,99,98,97] [B true,.und,.und,.und,.und,.und,.und,.und,.und,B true,B true,.und,.und,.und,.und,.und,.und,.und,.und,.und,.und] ?_
       refine de 836 rfl rfl ?_
       subst h
       exact rf [3,4,7,117] [1,2,3] (j26 :)
      ·refine dy [3] [] (.hp 3 0 [] 4 0 3) rfl (az rfl rfl rfl) ?_
       refine dy [3] [] (I e4.Status) rfl (aX rfl rfl) ?_
       refine dk 2 [100,99] [B (e4.Status==3),B (e4.Status==3)] ?_
       obtain⟨u27,hu27,h⟩:=lJ h
       have j27:Run eD 0 (dw (c_1,s_2,k_3) r) (.code eY::.code eU::[]) (sT 129 [(3,.hp 1 0 [] 2 0 0),(4,.hp 2 0 [] 5 0 0),(7,.hp 3 0 [] 4 0 0),(117,B u27)] [⟨0,2,[aa c_1]⟩,⟨0,5,[ai s_2]⟩,⟨0,4,[ah e4]⟩] 4):=by
        subst h
        exact rf [3,4,7,117] [1,2,3] (j26 :)
       replace h:=hu27
       clear hu27
       refine sp 100 h rfl ?_ ?_<;>intro h
       ·refine dy [3] [] (.hp 3 0 [] 4 0 2) rfl (az rfl rfl rfl) ?_
        refine dy [3] [] (I e4.Due) rfl (aX rfl rfl) ?_
        refine dy [2] [] (.hp 2 0 [] 5 0 0) rfl (az rfl rfl rfl) ?_
        refine dy [2] [] (I s_2.Day) rfl (aX rfl rfl) ?_
        refine dk 4 [108,107,106,105] [B (decide (e4.Due≥s_2.Day)),B (decide (e4.Due≥s_2.Day)),B (decide (e4.Due≥s_2.Day)),B (decide (e4.Due≥s_2.Day))] ?_
        obtain⟨u28,hu28,h⟩:=lJ h
        have j28:Run eD 0 (dw (c_1,s_2,k_3) r) (.code eY::.code eU::[]) (sT 129 [(3,.hp 1 0 [] 2 0 0),(4,.hp 2 0 [] 5 0 0),(7,.hp 3 0 [] 4 0 0),(117,B u28)] [⟨0,2,[aa c_1]⟩,⟨0,5,[ai s_2]⟩,⟨0,4,[ah e4]⟩] 4):=by
         subst h
         exact rf [3,4,7,117] [1,2,3] (j27 :)
        replace h:=hu28
        clear hu28
        refine sp 108 h rfl ?_ ?_<;>intro h
        ·refine dk 9 [117,116,115,114,113,112,111,110,109] [B true,.und,.und,.und,.und,.und,.und,.und,.und] ?_
         refine de 836 rfl rfl ?_
         subst h
         exact rf [3,4,7,117] [1,2,3] (j28 :)
        ·refine dy [3] [] (.hp 3 0 [] 4 0 3) rfl (az rfl rfl rfl) ?_
         refine dy [3] [] (I e4.Status) rfl (aX rfl rfl) ?_
         refine dk 2 [112,111] [B (e4.Status==4),B (e4.Status==4)] ?_
         obtain⟨u29,hu29,h⟩:=lJ h
         have j29:Run eD 0 (dw (c_1,s_2,k_3) r) (.code eY::.code eU::[]) (sT 129 [(3,.hp 1 0 [] 2 0 0),(4,.hp 2 0 [] 5 0 0),(7,.hp 3 0 [] 4 0 0),(117,B u29)] [⟨0,2,[aa c_1]⟩,⟨0,5,[ai s_2]⟩,⟨0,4,[ah e4]⟩] 4):=by
          subst h
          exact rf [3,4,7,117] [1,2,3] (j28 :)
         replace h:=hu29
         clear hu29
         refine sp 112 h rfl ?_ ?_<;>intro h
         ·refine dy [2] [] (.hp 2 0 [] 5 0 4) rfl (az rfl rfl rfl) ?_
          refine dy [2] [] (B s_2.Over) rfl (aX rfl rfl) ?_
          refine dk 3 [117,116,115] [B (!s_2.Over),B (!s_2.Over),B (!s_2.Over)] ?_
          refine de 836 rfl rfl ?_
          subst h
          exact rf [3,4,7,117] [1,2,3] (j29 :)
         ·refine dk 5 [117,116,115,114,113] [B false,B false,.und,.und,.und] ?_
          refine de 836 rfl rfl ?_
          subst h
          exact rf [3,4,7,117] [1,2,3] (j29 :)
       ·refine dk 8 [108,107,106,105,104,103,102,101] [B false,B false,B false,.und,.und,.und,.und,.und] ?_
        refine dy [3] [] (.hp 3 0 [] 4 0 3) rfl (az rfl rfl rfl) ?_
        refine dy [3] [] (I e4.Status) rfl (aX rfl rfl) ?_
        refine dk 2 [112,111] [B (e4.Status==4),B (e4.Status==4)] ?_
        obtain⟨u30,hu30,h⟩:=lJ h
        have j30:Run eD 0 (dw (c_1,s_2,k_3) r) (.code eY::.code eU::[]) (sT 129 [(3,.hp 1 0 [] 2 0 0),(4,.hp 2 0 [] 5 0 0),(7,.hp 3 0 [] 4 0 0),(117,B u30)] [⟨0,2,[aa c_1]⟩,⟨0,5,[ai s_2]⟩,⟨0,4,[ah e4]⟩] 4):=by
         subst h
         exact rf [3,4,7,117] [1,2,3] (j27 :)
        replace h:=hu30
        clear hu30
        refine sp 112 h rfl ?_ ?_<;>intro h
        ·refine dy [2] [] (.hp 2 0 [] 5 0 4) rfl (az rfl rfl rfl) ?_
         refine dy [2] [] (B s_2.Over) rfl (aX rfl rfl) ?_
         refine dk 3 [117,116,115] [B (!s_2.Over),B (!s_2.Over),B (!s_2.Over)] ?_
         refine de 836 rfl rfl ?_
         subst h
         exact rf [3,4,7,117] [1,2,3] (j30 :)
        ·refine dk 5 [117,116,115,114,113] [B false,B false,.und,.und,.und] ?_
         refine de 836 rfl rfl ?_
         subst h
         exact rf [3,4,7,117] [1,2,3] (j30 :)
    ·refine dk 12 [96,95,94,93,92,91,90,89,88,87,86,85] [B false,B false,B false,.und,.und,.und,.und,.und,.und,.und,.und,.und] ?_
     refine dy [3] [] (.hp 3 0 [] 4 0 3) rfl (az rfl rfl rfl) ?_
     refine dy [3] [] (I e4.Status) rfl (aX rfl rfl) ?_
     refine dk 2 [100,99] [B (e4.Status==3),B (e4.Status==3)] ?_
     obtain⟨u31,hu31,h⟩:=lJ h
     have j31:Run eD 0 (dw (c_1,s_2,k_3) r) (.code eY::.code eU::[]) (sT 129 [(3,.hp 1 0 [] 2 0 0),(4,.hp 2 0 [] 5 0 0),(7,.hp 3 0 [] 4 0 0),(117,B u31)] [⟨0,2,[aa c_1]⟩,⟨0,5,[ai s_2]⟩,⟨0,4,[ah e4]⟩] 4):=by
      subst h
      exact rf [3,4,7,117] [1,2,3] (j24 :)
     replace h:=hu31
     clear hu31
     refine sp 100 h rfl ?_ ?_<;>intro h
     ·refine dy [3] [] (.hp 3 0 [] 4 0 2) rfl (az rfl rfl rfl) ?_
      refine dy [3] [] (I e4.Due) rfl (aX rfl rfl) ?_
      refine dy [2] [] (.hp 2 0 [] 5 0 0) rfl (az rfl rfl rfl) ?_
      refine dy [2] [] (I s_2.Day) rfl (aX rfl rfl) ?_
      refine dk 4 [108,107,106,105] [B (decide (e4.Due≥s_2.Day)),B (decide (e4.Due≥s_2.Day)),B (decide (e4.Due≥s_2.Day)),B (decide (e4.Due≥s_2.Day))] ?_
      obtain⟨u32,hu32,h⟩:=lJ h
      have j32:Run eD 0 (dw (c_1,s_2,k_3) r) (.code eY::.code eU::[]) (sT 129 [(3,.hp 1 0 [] 2 0 0),(4,.hp 2 0 [] 5 0 0),(7,.hp 3 0 [] 4 0 0),(117,B u32)] [⟨0,2,[aa c_1]⟩,⟨0,5,[ai s_2]⟩,⟨0,4,[ah e4]⟩] 4):=by
       subst h
       exact rf [3,4,7,117] [1,2,3] (j31 :)
      replace h:=hu32
      clear hu32
      refine sp 108 h rfl ?_ ?_<;>intro h
      ·refine dk 9 [117,116,115,114,113,112,111,110,109] [B true,.und,.und,.und,.und,.und,.und,.und,.und] ?_
       refine de 836 rfl rfl ?_
       subst h
       exact rf [3,4,7,117] [1,2,3] (j32 :)
      ·refine dy [3] [] (.hp 3 0 [] 4 0 3) rfl (az rfl rfl rfl) ?_
       refine dy [3] [] (I e4.Status) rfl (aX rfl rfl) ?_
       refine dk 2 [112,111] [B (e4.Status==4),B (e4.Status==4)] ?_
       obtain⟨u33,hu33,h⟩:=lJ h
       have j33:Run eD 0 (dw (c_1,s_2,k_3) r) (.code eY::.code eU::[]) (sT 129 [(3,.hp 1 0 [] 2 0 0),(4,.hp 2 0 [] 5 0 0),(7,.hp 3 0 [] 4 0 0),(117,B u33)] [⟨0,2,[aa c_1]⟩,⟨0,5,[ai s_2]⟩,⟨0,4,[ah e4]⟩] 4):=by
        subst h
        exact rf [3,4,7,117] [1,2,3] (j32 :)
       replace h:=hu33
       clear hu33
       refine sp 112 h rfl ?_ ?_<;>intro h
       ·refine dy [2] [] (.hp 2 0 [] 5 0 4) rfl (az rfl rfl rfl) ?_
        refine dy [2] [] (B s_2.Over) rfl (aX rfl rfl) ?_
        refine dk 3 [117,116,115] [B (!s_2.Over),B (!s_2.Over),B (!s_2.Over)] ?_
        refine de 836 rfl rfl ?_
        subst h
        exact rf [3,4,7,117] [1,2,3] (j33 :)
       ·refine dk 5 [117,116,115,114,113] [B false,B false,.und,.und,.und] ?_
        refine de 836 rfl rfl ?_
        subst h
        exact rf [3,4,7,117] [1,2,3] (j33 :)
     ·refine dk 8 [108,107,106,105,104,103,102,101] [B false,B false,B false,.und,.und,.und,.und,.und] ?_
      refine dy [3] [] (.hp 3 0 [] 4 0 3) rfl (az rfl rfl rfl) ?_
      refine dy [3] [] (I e4.Status) rfl (aX rfl rfl) ?_
      refine dk 2 [112,111] [B (e4.Status==4),B (e4.Status==4)] ?_
      obtain⟨u34,hu34,h⟩:=lJ h
      have j34:Run eD 0 (dw (c_1,s_2,k_3) r) (.code eY::.code eU::[]) (sT 129 [(3,.hp 1 0 [] 2 0 0),(4,.hp 2 0 [] 5 0 0),(7,.hp 3 0 [] 4 0 0),(117,B u34)] [⟨0,2,[aa c_1]⟩,⟨0,5,[ai s_2]⟩,⟨0,4,[ah e4]⟩] 4):=by
       subst h
       exact rf [3,4,7,117] [1,2,3] (j31 :)
      replace h:=hu34
      clear hu34
      refine sp 112 h rfl ?_ ?_<;>intro h
      ·refine dy [2] [] (.hp 2 0 [] 5 0 4) rfl (az rfl rfl rfl) ?_
       refine dy [2] [] (B s_2.Over) rfl (aX rfl rfl) ?_
       refine dk 3 [117,116,115] [B (!s_2.Over),B (!s_2.Over),B (!s_2.Over)] ?_
       refine de 836 rfl rfl ?_
       subst h
       exact rf [3,4,7,117] [1,2,3] (j34 :)
      ·refine dk 5 [117,116,115,114,113] [B false,B false,.und,.und,.und] ?_
       refine de 836 rfl rfl ?_
       subst h
       exact rf [3,4,7,117] [1,2,3] (j34 :)
 have r6:∀r',y6=.inl r'→∀st,dw (c_1,s_2,k_3) r' st→(dw (c_1,s_2,k_3) r) st:=fun r' e st hq=>by rw[hy61 r' e] at hq;exact hq
 replace h:=hy6
 refine sp 21 h rfl ?_ ?_<;>intro h
 ·refine dk 44 [65,64,63,62,61,60,59,58,57,56,55,54,53,52,51,50,49,48,47,46,45,44,43,42,41,40,39,38,37,36,35,34,33,32,31,30,29,28,27,26,25,24,23,22] [B true,.und,.und,.und,.und,B true,B true,.und,.und,.und,.und,B true,B true,.und,.und,.und,.und,.und,.und,.und,.und,.und,.und,.und,.und,.und,B true,B true,.und,.und,.und,.und,.und,.und,B true,B true,.und,.und,.und,.und,.und,.und,.und,.und] ?_
  refine de 1009 rfl rfl ?_
  exact rf [2,3,4,7,65] [1,17,129] (j6 _ (an h) :)
 ·refine dy [1] [] (.hp 1 0 [] 2 0 1) rfl (az rfl rfl rfl) ?_
  refine dy [1] [] (.isl false (c_1.Clauses.map au)) rfl (aX rfl rfl) ?_
  refine dy [129] [] (.hp 129 0 [] 4 0 0) rfl (az rfl rfl rfl) ?_
  refine dy [129] [] (I e4.Clause) rfl (aX rfl rfl) ?_
  obtain⟨e35,he35,h⟩:=bS h
  refine dy [] [] (.iptr (aB e35) 0) rfl (al rfl rfl rfl (bo rfl rfl rfl rfl he35)) ?_
  refine dy [] [] (.iptr (aB e35) 1) rfl (az rfl rfl rfl) ?_
  refine dy [] [] (I e35.Kind) rfl (aX rfl rfl) ?_
  refine dk 3 [31,30,29] [B (e35.Kind != 1),B (e35.Kind != 1),B (e35.Kind != 1)] ?_
  obtain⟨y36,hy36,hy361,hy362⟩:=bL h
  have j36:∀u36,y36=.inr u36→Run eD 0 (dw (c_1,s_2,k_3) r) (.code vn::.code qa::[]) (sT 129 [(2,I k_3),(3,.hp 1 0 [] 2 0 0),(4,.hp 2 0 [] 5 0 0),(7,.hp 3 0 [] 4 0 0),(65,B u36)] [⟨0,2,[aa c_1]⟩,⟨0,5,[ai s_2]⟩,⟨0,4,[ah e4]⟩] 4):=by
   intro u36 hu
   replace h:=hy362 u36 hu
   exact rf [2,3,4,7,65] [1,2,3] (j6 _ (an h) :)
  have r36:∀r',y36=.inl r'→∀st,dw (c_1,s_2,k_3) r' st→(dw (c_1,s_2,k_3) r) st:=fun r' e st hq=>r6 r' (hy361 r' e) st hq
  replace h:=hy36
  refine sp 31 h rfl ?_ ?_<;>intro h
  ·refine dk 34 [65,64,63,62,61,60,59,58,57,56,55,54,53,52,51,50,49,48,47,46,45,44,43,42,41,40,39,38,37,36,35,34,33,32] [B true,.und,.und,.und,.und,B true,B true,.und,.und,.und,.und,B true,B true,.und,.und,.und,.und,.und,.und,.und,.und,.und,.und,.und,.und,.und,B true,B true,.und,.und,.und,.und,.und,.und] ?_
   refine de 1009 rfl rfl ?_
   exact rf [2,3,4,7,65] [1,17,129] (j36 _ (an h) :)
  ·refine dy [129] [] (.hp 129 0 [] 4 0 1) rfl (az rfl rfl rfl) ?_
   refine dy [129] [] (I e4.Since) rfl (aX rfl rfl) ?_
   refine dy [17] [] (.hp 17 0 [] 5 0 0) rfl (az rfl rfl rfl) ?_
   refine dy [17] [] (I s_2.Day) rfl (aX rfl rfl) ?_
   obtain⟨r37,hr37,h⟩:=bS h
   refine dy [] [] (B r37) rfl (cP (eG hr37)) ?_ (d3 rfl rfl rfl rfl (bg (bT rfl) (bg (bT rfl) (bg (bT rfl) cX))) (eG hr37) (.inr rfl) rfl)
   refine dk 3 [39,38,37] [B (!r37),B (!r37),B (!r37)] ?_
   obtain⟨y38,hy38,hy381,hy382⟩:=bL h
   have j38:∀u38,y38=.inr u38→Run eD 0 (dw (c_1,s_2,k_3) r) (.code vn::.code qa::[]) (sT 129 [(2,I k_3),(3,.hp 1 0 [] 2 0 0),(4,.hp 2 0 [] 5 0 0),(7,.hp 3 0 [] 4 0 0),(65,B u38)] [⟨0,2,[aa c_1]⟩,⟨0,5,[ai s_2]⟩,⟨0,4,[ah e4]⟩] 4):=by
    intro u38 hu
    replace h:=hy382 u38 hu
    exact rf [2,3,4,7,65] [1,2,3] (j36 _ (an h) :)
   have r38:∀r',y38=.inl r'→∀st,dw (c_1,s_2,k_3) r' st→(dw (c_1,s_2,k_3) r) st:=fun r' e st hq=>r36 r' (hy381 r' e) st hq
   replace h:=hy38
   refine sp 39 h rfl ?_ ?_<;>intro h
   ·refine dk 26 [65,64,63,62,61,60,59,58,57,56,55,54,53,52,51,50,49,48,47,46,45,44,43,42,41,40] [B true,.und,.und,.und,.und,B true,B true,.und,.und,.und,.und,B true,B true,.und,.und,.und,.und,.und,.und,.und,.und,.und,.und,.und,.und,.und] ?_
    refine de 1009 rfl rfl ?_
    exact rf [2,3,4,7,65] [1,17,129] (j38 _ (an h) :)
   ·refine dy [129] [] (.hp 129 0 [] 4 0 2) rfl (az rfl rfl rfl) ?_
    refine dy [129] [] (I e4.Due) rfl (aX rfl rfl) ?_
    refine dy [129] [] (.hp 129 0 [] 4 0 1) rfl (az rfl rfl rfl) ?_
    refine dy [129] [] (I e4.Since) rfl (aX rfl rfl) ?_
    refine dy [1] [] (.hp 1 0 [] 2 0 1) rfl (az rfl rfl rfl) ?_
    refine dy [1] [] (.isl false (c_1.Clauses.map au)) rfl (aX rfl rfl) ?_
    refine dy [129] [] (.hp 129 0 [] 4 0 0) rfl (az rfl rfl rfl) ?_
    refine dy [129] [] (I e4.Clause) rfl (aX rfl rfl) ?_
    obtain⟨e39,he39,h⟩:=bS h
    refine dy [] [] (.iptr (aB e39) 0) rfl (al rfl rfl rfl (bo rfl rfl rfl rfl he39)) ?_
    refine dy [] [] (.iptr (aB e39) 10) rfl (az rfl rfl rfl) ?_
    refine dy [] [] (I e39.Within) rfl (aX rfl rfl) ?_
    refine dk 4 [54,53,52,51] [B (e4.Due != (ac (e4.Since+e39.Within))),B (e4.Due != (ac (e4.Since+e39.Within))),B (e4.Due != (ac (e4.Since+e39.Within))),I (ac (e4.Since+e39.Within))] ?_
    obtain⟨y40,hy40,hy401,hy402⟩:=bL h
    have j40:∀u40,y40=.inr u40→Run eD 0 (dw (c_1,s_2,k_3) r) (.code vn::.code qa::[]) (sT 129 [(2,I k_3),(3,.hp 1 0 [] 2 0 0),(4,.hp 2 0 [] 5 0 0),(7,.hp 3 0 [] 4 0 0),(65,B u40)] [⟨0,2,[aa c_1]⟩,⟨0,5,[ai s_2]⟩,⟨0,4,[ah e4]⟩] 4):=by
     intro u40 hu
     replace h:=hy402 u40 hu
     exact rf [2,3,4,7,65] [1,2,3] (j38 _ (an h) :)
    have r40:∀r',y40=.inl r'→∀st,dw (c_1,s_2,k_3) r' st→(dw (c_1,s_2,k_3) r) st:=fun r' e st hq=>r38 r' (hy401 r' e) st hq
    replace h:=hy40
    refine sp 54 h rfl ?_ ?_<;>intro h
    ·refine dk 11 [65,64,63,62,61,60,59,58,57,56,55] [B true,.und,.und,.und,.und,B true,B true,.und,.und,.und,.und] ?_
     refine de 1009 rfl rfl ?_
     exact rf [2,3,4,7,65] [1,17,129] (j40 _ (an h) :)
    ·refine dy [129] [] (.hp 129 0 [] 4 0 2) rfl (az rfl rfl rfl) ?_
     refine dy [129] [] (I e4.Due) rfl (aX rfl rfl) ?_
     obtain⟨r41,hr41,h⟩:=bS h
     refine dy [] [] (B r41) rfl (cP (Hb hr41)) ?_ (d3 rfl rfl rfl rfl (bg (bT rfl) cX) (Hb hr41) (.inr rfl) rfl)
     refine dk 3 [60,59,58] [B (!r41),B (!r41),B (!r41)] ?_
     obtain⟨y42,hy42,hy421,hy422⟩:=bL h
     have j42:∀u42,y42=.inr u42→Run eD 0 (dw (c_1,s_2,k_3) r) (.code vn::.code qa::[]) (sT 129 [(2,I k_3),(3,.hp 1 0 [] 2 0 0),(4,.hp 2 0 [] 5 0 0),(7,.hp 3 0 [] 4 0 0),(65,B u42)] [⟨0,2,[aa c_1]⟩,⟨0,5,[ai s_2]⟩,⟨0,4,[ah e4]⟩] 4):=by
      intro u42 hu
      replace h:=hy422 u42 hu
      exact rf [2,3,4,7,65] [1,2,3] (j40 _ (an h) :)
     have r42:∀r',y42=.inl r'→∀st,dw (c_1,s_2,k_3) r' st→(dw (c_1,s_2,k_3) r) st:=fun r' e st hq=>r40 r' (hy421 r' e) st hq
     replace h:=hy42
     refine sp 60 h rfl ?_ ?_<;>intro h
     ·refine dk 5 [65,64,63,62,61] [B true,.und,.und,.und,.und] ?_
      refine de 1009 rfl rfl ?_
      exact rf [2,3,4,7,65] [1,17,129] (j42 _ (an h) :)
     ·refine dy [129] [] (.hp 129 0 [] 4 0 3) rfl (az rfl rfl rfl) ?_
      refine dy [129] [] (I e4.Status) rfl (aX rfl rfl) ?_
      obtain⟨r43,hr43,h⟩:=bS h
      refine dy [] [] (B r43) rfl (cP (eG hr43)) ?_ (d3 rfl rfl rfl rfl (bg (bT rfl) (bg (bT rfl) (bg (bT rfl) cX))) (eG hr43) (.inr rfl) rfl)
      refine dk 2 [65,64] [B (!r43),B (!r43)] ?_
      refine de 1009 rfl rfl ?_
      exact rf [2,3,4,7,65] [1,17,129] (j42 _ (an h) :)
theorem WU {G:b7}:bZ G 124 DU:=gT 3 0 (aO gE (aO WJ (aO WT (aO yh bv)))) cf Tryz.func124 (fun a r h=>aaa a.1 a.2.1 a.2.2 r h)
def G5:Int→List V:=oA I
def G6 (r:Bool):V×List V:=(B r,[])
noncomputable def Dx :=bi [false] G5 G6 fun x=>Dw x
theorem afz {x_1:Int}{r}(h:Dw x_1=some r):Dx.F (G5 x_1)=some (G6 r):=aJ (aK bc) h
noncomputable def afB :=aH Tryz.f125
noncomputable def Wg :=ce [(89,fY)]
def afA (x:Int)(r:Bool):St→Prop:=QF Wg Tryz.f125 [false] (G5 x) (G6 r)
theorem ZM (x_1:Int)(r:Bool)(h:Dw x_1=some r):br Wg Tryz.f125 [false] 0 (G5 x_1) (G6 r):=by
 show Run _ _ (afA x_1 r) [.code afB] _
 refine rI 5 [(0,I x_1)] [] 1 ?_
 unfold Dw at h
 refine cq 7 [3] [I x_1] 33 ?_
 obtain⟨r2,hr2,h⟩:=bS h
 refine oq 49 (B r2) rfl (cP (eG hr2)) ?_
 refine cq 2 [2] [B r2] 65 ?_
 obtain rfl:=sI h
 exact rP [B r2]
theorem Wh {G:b7}:bZ G 125 Dx:=gT 1 0 (aO gE bv) cf Tryz.func125 (fun a r h=>ZM a r h)
def G7:(List Int)→List V:=oA (gj I)
def G8 (r:Int):V×List V:=(I r,[])
noncomputable def Dy :=bi [false] G7 G8 fun x=>we x
theorem afC {ay:List Int}{r}(h:we ay=some r):Dy.F (G7 ay)=some (G8 r):=aJ (aK (cn bc)) h
noncomputable def Wj :=aH Tryz.f126
noncomputable def Nz :=ce []
def Wi (x:(List Int))(r:Int):St→Prop:=QF Nz Tryz.f126 [false] (G7 x) (G8 r)
theorem P9 (ay:List Int):cj Nz 0 (Wi ay) (cL (cL (cR (cL (cR (cR Wj)))))) 0 (lr ay) (fun u=>(sT 18 [(3,I u)] [] 1)) fun x2=>(sT 18 [(0,.isl false (ay.map I)),(3,I x2.1),(4,I x2.2)] [] 1):=ef (Bf ay) fun {Q K} hK self ih x2 y h hr hn=>by
 unfold l7 at h
 refine cq 5 [5,6] [I x2.2,.isl false (ay.map I)] 33 ?_
 refine oq 49 (I (len ay)) rfl (bw rfl rfl rfl (bN rfl)) ?_
 refine cq 2 [8] [B (decide (x2.2<(len ay)))] 65 ?_
 refine sq h ?_ ?_<;>intro h
 ·refine aq 1 ?_
  refine cq 6 [11,12,13] [I x2.1,.isl false (ay.map I),I x2.2] 113 ?_
  obtain⟨e3,he3,h⟩:=bS h
  refine oq 129 (.iptr (I e3) 0) rfl (al rfl rfl rfl (bo rfl rfl rfl rfl he3)) ?_
  refine cq 10 [3,4] [I (ac (x2.1+e3)),I (ac (x2.2+1))] 225 ?_
  refine cY ?_
  exact rf [0,3,4] [] (ih _ _ h hr hn :)
 ·refine aq 1 ?_
  exact rf [3] [] (hn _ (an h) :) (hk:=hK)
theorem ZN (ay:List Int)(r:Int)(h:we ay=some r):br Nz Tryz.f126 [false] 0 (G7 ay) (G8 r):=by
 show Run _ _ (Wi ay r) [.code Wj] _
 refine rI 18 [(0,.isl false (ay.map I))] [] 1 ?_
 unfold we at h
 refine cq 14 [3,4] [I (0),I (0)] 49 ?_
 obtain⟨y4,hy4,hy41,hy42⟩:=bJ h
 refine bO rfl ?_
 refine rf [0,3,4] [] (P9 ay rfl (0,0) _ hy4 (fun r' e st hq=>by rw[hy41 r' e] at hq;exact hq) fun u4 hu=>?_)
 replace h:=hy42 u4 hu
 refine cq 5 [2] [I u4] 33 ?_
 obtain rfl:=sI h
 exact rP [I u4]
theorem Wl {G:b7}:bZ G 126 Dy:=gT 1 0 bv cf Tryz.func126 (fun a r h=>ZN a r h)
def HV:(Contract×State)→List V:=cA aP (oA bH)
def HW (r:Bool):V×List V:=(B r,[])
noncomputable def DV :=bi [false,false] HV HW fun x=>su x.1 x.2
theorem afQ {c_1:Contract}{s_2:State}{r}(h:su c_1 s_2=some r):DV.F (HV (c_1,s_2))=some (HW r):=aJ (aN bb (aK cd)) h
noncomputable def lb :=aH Tryz.f75
noncomputable def pg :=ce [(43,DP),(93,wn),(123,wi),(124,DU),(125,Dx),(126,Dy),(76,sj),(122,DA)]
def la (x:Contract×State)(r:Bool):St→Prop:=QF pg Tryz.f75 [false,false] (HV x) (HW r)
theorem Qn (c_1:Contract)(s_2:State)(r5:(List ae)):cj pg 0 (la (c_1,s_2)) (cL (cL (cR (cL (cR (cR (cR lb))))))) 0 (vo c_1 s_2 r5) (fun u=>(sT 86 [(2,.hp 1 0 [] 2 0 0),(3,.hp 2 0 [] 5 0 0)] [⟨0,2,[aa c_1]⟩,⟨0,5,[ai s_2]⟩] 3)) fun x6=>(sT 86 [(2,.hp 1 0 [] 2 0 0),(3,.hp 2 0 [] 5 0 0),(5,.hs 3 0 [] 1 0 (r5.map str).length),(6,I x6)] [⟨0,2,[aa c_1]⟩,⟨0,5,[ai s_2]⟩,⟨0,1,r5.map str⟩] 4):=ef (Bt c_1 s_2 r5) fun {Q K} hK self ih x6 y h hr hn=>by
 unfold oM at h
 refine cq 6 [41,43] [I x6,.isl false (s_2.Facts.map str)] 52 ?_
 refine oq 68 (I (len s_2.Facts)) rfl (bw rfl rfl rfl (bN rfl)) ?_
 refine cq 2 [45] [B (decide (x6<(len s_2.Facts)))] 84 ?_
 refine sq h ?_ ?_<;>intro h
 ·refine aq 1 ?_
  refine cq 8 [48,50,51] [.hs 3 0 [] 1 0 (r5.map str).length,.isl false (s_2.Facts.map str),I x6] 148 ?_
  obtain⟨e7,he7,h⟩:=bS h
  refine oq 164 (.iptr (str e7) 0) rfl (al rfl rfl rfl (bo rfl rfl rfl rfl he7)) ?_
  refine cq 1 [53] [str e7] 180 ?_
  obtain⟨r8,hr8,h⟩:=bS h
  refine oq 196 (B r8) rfl (bG rfl rfl (bX rfl rfl rfl (bg (xp rfl rfl (dI (f:=str) (g:=str) (xs:=r5) rfl rfl (bP fI))) (bg (bT rfl) cX)) (NE hr8) (.inl rfl) dF rfl rfl rfl)) ?_
  refine cq 2 [55] [B (!r8)] 212 ?_
  refine sq h ?_ ?_<;>intro h
  ·refine cq 4 [4] [B false] 228 ?_
   exact b8 rfl (hr _ (an h) _ (qp [B false]))
  ·refine aq 1 ?_
   refine cq 6 [6] [I (ac (x6+1))] 260 ?_
   refine cY ?_
   exact rf [2,3,5,6] [1,2,3] (ih _ _ h hr hn :)
 ·refine aq 1 ?_
  exact rf [2,3] [1,2] (hn _ (an h) :) (hk:=hK)
theorem Qo (c_1:Contract)(s_2:State):cj pg 0 (la (c_1,s_2)) (cL (cL (cR (cL (cR (cR (cR (cR lb)))))))) 2 (oO c_1 s_2) (fun u=>(sT 86 [(3,.hp 1 0 [] 5 0 0)] [⟨0,5,[ai s_2]⟩] 2)) fun x10=>(sT 86 [(2,.hp 1 0 [] 2 0 0),(3,.hp 2 0 [] 5 0 0),(7,I x10)] [⟨0,2,[aa c_1]⟩,⟨0,5,[ai s_2]⟩] 3):=ef (Bu c_1 s_2) fun {Q K} hK self ih x10 y h hr hn=>by
 unfold mh at h
 refine cq 6 [56,58] [I x10,.isl false (s_2.Duties.map ah)] 51 ?_
 refine oq 67 (I (len s_2.Duties)) rfl (bw rfl rfl rfl (bN rfl)) ?_
 refine cq 2 [60] [B (decide (x10<(len s_2.Duties)))] 83 ?_
 refine sq h ?_ ?_<;>intro h
 ·refine aq 1 ?_
  refine cq 7 [63,64,65] [aa c_1,ai s_2,I x10] 131 ?_
  obtain⟨r11,hr11,h⟩:=bS h
  refine oq 147 (B r11) rfl (cP (afP hr11)) ?_
  refine cq 2 [67] [B (!r11)] 163 ?_
  refine sq h ?_ ?_<;>intro h
  ·refine cq 4 [4] [B false] 179 ?_
   exact b8 rfl (hr _ (an h) _ (qp [B false]))
  ·refine aq 1 ?_
   refine cq 6 [7] [I (ac (x10+1))] 211 ?_
   refine cY ?_
   exact rf [2,3,7] [1,2] (ih _ _ h hr hn :)
 ·refine aq 1 ?_
  exact rf [3] [2] (hn _ (an h) :) (hk:=hK)
theorem Qp (c_1:Contract)(s_2:State):cj pg 0 (la (c_1,s_2)) (cL (cL (cR (cL (cR (cR (cR (cR (cR lb))))))))) 4 (vp c_1 s_2) (fun u=>(sT 86 [(3,.hp 1 0 [] 5 0 0)] [⟨0,5,[ai s_2]⟩] 2)) fun x13=>(sT 86 [(3,.hp 1 0 [] 5 0 0),(8,I x13)] [⟨0,5,[ai s_2]⟩] 2):=ef (Bv c_1 s_2) fun {Q K} hK self ih x13 y h hr hn=>by
 unfold oP at h
 refine cq 6 [68,70] [I x13,.isl false (s_2.Balances.map I)] 50 ?_
 refine oq 66 (I (len s_2.Balances)) rfl (bw rfl rfl rfl (bN rfl)) ?_
 refine cq 2 [72] [B (decide (x13<(len s_2.Balances)))] 82 ?_
 refine sq h ?_ ?_<;>intro h
 ·refine aq 1 ?_
  refine cq 7 [76,77] [.isl false (s_2.Balances.map I),I x13] 130 ?_
  obtain⟨e14,he14,h⟩:=bS h
  refine oq 146 (.iptr (I e14) 0) rfl (al rfl rfl rfl (bo rfl rfl rfl rfl he14)) ?_
  refine cq 1 [79] [I e14] 162 ?_
  obtain⟨r15,hr15,h⟩:=bS h
  refine oq 178 (B r15) rfl (cP (afz hr15)) ?_
  refine cq 2 [81] [B (!r15)] 194 ?_
  refine sq h ?_ ?_<;>intro h
  ·refine cq 4 [4] [B false] 210 ?_
   exact b8 rfl (hr _ (an h) _ (qp [B false]))
  ·refine aq 1 ?_
   refine cq 6 [8] [I (ac (x13+1))] 242 ?_
   refine cY ?_
   exact rf [3,8] [1] (ih _ _ h hr hn :)
 ·refine aq 1 ?_
  exact rf [3] [1] (hn _ (an h) :) (hk:=hK)
theorem aab (c_1:Contract)(s_2:State)(r:Bool)(h:su c_1 s_2=some r):br pg Tryz.f75 [false,false] 0 (HV (c_1,s_2)) (HW r):=by
 show Run _ _ (la (c_1,s_2) r) [.code lb] _
 refine rI 86 [(0,aa c_1),(1,ai s_2)] [] 1 ?_
 unfold su at h
 refine ck 10 [2,3,9] [] [1,17] [] [.hp 1 0 [] 2 0 0,.hp 17 0 [] 5 0 0,aa c_1] [some ⟨0,2,[aa c_1]⟩,some ⟨0,5,[ai s_2]⟩] 65 (by kernel_rfl) ?_
 obtain⟨r3,hr3,h⟩:=bS h
 refine oq 81 (B r3) rfl (cP (afM hr3)) ?_
 refine cq 2 [12] [B (!r3)] 113 ?_
 obtain⟨y4,hy4,hy41,hy42⟩:=bJ h
 have j4:∀u4,y4=.inr u4→Run pg 0 (la (c_1,s_2) r) (.code (cR (cL (cR lb)))::.code (cR (cR lb))::[]) (sT 86 [(2,.hp 1 0 [] 2 0 0),(3,.hp 2 0 [] 5 0 0),(38,B u4)] [⟨0,2,[aa c_1]⟩,⟨0,5,[ai s_2]⟩] 3):=by
  intro u4 hu
  replace h:=hy42 u4 hu
  refine sq h ?_ ?_<;>intro h
  ·refine cq 4 [4] [B false] 19 ?_
   obtain rfl:=sI h
   exact rP [B false]
  ·refine aq 1 ?_
   refine cq 3 [39] [aa c_1] 19 ?_
   obtain⟨r5,hr5,h⟩:=bS h
   refine oq 35 (.hs 19 0 [] 1 0 (r5.map str).length) rfl (cP (WN hr5)) ?_
   refine cq 8 [5,6] [.hs 19 0 [] 1 0 (r5.map str).length,I (0)] 67 ?_
   obtain⟨y9,hy9,hy91,hy92⟩:=bJ h
   refine bO rfl ?_
   refine rf [2,3,5,6] [1,2,19] (Qn c_1 s_2 r5 rfl 0 _ hy9 (fun r' e st hq=>by rw[hy91 r' e] at hq;exact hq) fun u9 hu=>?_)
   replace h:=hy92 u9 hu
   refine cq 6 [7] [I (0)] 19 ?_
   obtain⟨y12,hy12,hy121,hy122⟩:=bJ h
   refine bO rfl ?_
   refine rf [2,3,7] [1,2] (Qo c_1 s_2 rfl 0 _ hy12 (fun r' e st hq=>by rw[hy121 r' e] at hq;exact hq) fun u12 hu=>?_)
   replace h:=hy122 u12 hu
   refine cq 6 [8] [I (0)] 18 ?_
   obtain⟨y16,hy16,hy161,hy162⟩:=bJ h
   refine bO rfl ?_
   refine rf [3,8] [1] (Qp c_1 s_2 rfl 0 _ hy16 (fun r' e st hq=>by rw[hy161 r' e] at hq;exact hq) fun u16 hu=>?_)
   replace h:=hy162 u16 hu
   refine cq 4 [83] [.isl false (s_2.Balances.map I)] 34 ?_
   obtain⟨r17,hr17,h⟩:=bS h
   refine oq 50 (I r17) rfl (cP (afC hr17)) ?_
   refine cq 3 [4] [B (r17==0)] 82 ?_
   obtain rfl:=sI h
   exact rP [B (r17==0)]
 have r4:∀r',y4=.inl r'→∀st,la (c_1,s_2) r' st→(la (c_1,s_2) r) st:=fun r' e st hq=>by rw[hy41 r' e] at hq;exact hq
 replace h:=hy4
 refine sp 12 h rfl ?_ ?_<;>intro h
 ·refine cq 27 [38] [B true] 529 ?_
  exact rf [2,3,38] [1,17] (j4 _ (an h) :)
 ·refine cq 2 [14] [I s_2.Day] 145 ?_
  obtain⟨r18,hr18,h⟩:=bS h
  refine oy 161 (B r18) rfl (cP (Hb hr18)) ?_
  refine cq 3 [18] [B (!r18)] 209 ?_
  obtain⟨y19,hy19,hy191,hy192⟩:=bL h
  have j19:∀u19,y19=.inr u19→Run pg 0 (la (c_1,s_2) r) (.code (cR (cL (cR lb)))::.code (cR (cR lb))::[]) (sT 86 [(2,.hp 1 0 [] 2 0 0),(3,.hp 2 0 [] 5 0 0),(38,B u19)] [⟨0,2,[aa c_1]⟩,⟨0,5,[ai s_2]⟩] 3):=by
   intro u19 hu
   replace h:=hy192 u19 hu
   exact rf [2,3,38] [1,2] (j4 _ (an h) :)
  have r19:∀r',y19=.inl r'→∀st,la (c_1,s_2) r' st→(la (c_1,s_2) r) st:=fun r' e st hq=>r4 r' (hy191 r' e) st hq
  replace h:=hy19
  refine sp 18 h rfl ?_ ?_<;>intro h
  ·refine cq 21 [38] [B true] 529 ?_
   exact rf [2,3,38] [1,17] (j19 _ (an h) :)
  ·refine cq 2 [20] [.isl false (s_2.Facts.map str)] 241 ?_
   obtain⟨r20,hr20,h⟩:=bS h
   refine oy 257 (B r20) rfl (cP (afF hr20)) ?_
   refine cq 3 [24] [B (!r20)] 305 ?_
   obtain⟨u21,hu21,h⟩:=lJ h
   have j21:Run pg 0 (la (c_1,s_2) r) (.code (cR (cL (cR lb)))::.code (cR (cR lb))::[]) (sT 86 [(2,.hp 1 0 [] 2 0 0),(3,.hp 2 0 [] 5 0 0),(38,B u21)] [⟨0,2,[aa c_1]⟩,⟨0,5,[ai s_2]⟩] 3):=by
    exact rf [2,3,38] [1,2] (j19 _ (an h) :)
   replace h:=hu21
   clear hu21
   refine sp 24 h rfl ?_ ?_<;>intro h
   ·refine cq 15 [38] [B true] 529 ?_
    subst h
    exact rf [2,3,38] [1,17] (j21 :)
   ·refine cq 2 [26] [.isl false (s_2.Duties.map ah)] 337 ?_
    refine oy 353 (I (len s_2.Duties)) rfl (bw rfl rfl rfl (bN rfl)) ?_
    refine cq 3 [30] [B (decide ((len s_2.Duties)>24))] 401 ?_
    obtain⟨u22,hu22,h⟩:=lJ h
    have j22:Run pg 0 (la (c_1,s_2) r) (.code (cR (cL (cR lb)))::.code (cR (cR lb))::[]) (sT 86 [(2,.hp 1 0 [] 2 0 0),(3,.hp 2 0 [] 5 0 0),(38,B u22)] [⟨0,2,[aa c_1]⟩,⟨0,5,[ai s_2]⟩] 3):=by
     subst h
     exact rf [2,3,38] [1,2] (j21 :)
    replace h:=hu22
    clear hu22
    refine sp 30 h rfl ?_ ?_<;>intro h
    ·refine cq 9 [38] [B true] 529 ?_
     subst h
     exact rf [2,3,38] [1,17] (j22 :)
    ·refine cq 2 [32] [.isl false (s_2.Balances.map I)] 433 ?_
     refine oy 449 (I (len s_2.Balances)) rfl (bw rfl rfl rfl (bN rfl)) ?_
     refine cq 2 [35] [.isl false (c_1.Parties.map str)] 481 ?_
     refine oy 497 (I (len c_1.Parties)) rfl (bw rfl rfl rfl (bN rfl)) ?_
     refine cq 3 [38] [B ((len s_2.Balances) != (len c_1.Parties))] 529 ?_
     subst h
     exact rf [2,3,38] [1,17] (j22 :)
theorem WV {G:b7}:bZ G 75 DV:=gT 2 0 (aO WM (aO KK (aO KH (aO WU (aO Wh (aO Wl (aO yh (aO Wo bv)))))))) cf Tryz.func75 (fun a r h=>aab a.1 a.2 r h)
def GX:(Contract×State×Int)→List V:=cA aP (cA bH (oA I))
def GZ (r:Bool):V×List V:=(B r,[])
noncomputable def Du :=bi [false,false,false] GX GZ fun x=>Dt x.1 x.2.1 x.2.2
theorem afx {c_1:Contract}{s_2:State}{cg:Int}{r}(h:Dt c_1 s_2 cg=some r):Du.F (GX (c_1,s_2,cg))=some (GZ r):=aJ (aN bb (aN cd (aK bc))) h
noncomputable def Wc :=aH Tryz.f65
noncomputable def Nx :=ce [(75,DV),(89,fY)]
def GY (x:Contract×State×Int)(r:Bool):St→Prop:=QF Nx Tryz.f65 [false,false,false] (GX x) (GZ r)
theorem ZK (c_1:Contract)(s_2:State)(cg:Int)(r:Bool)(h:Dt c_1 s_2 cg=some r):br Nx Tryz.f65 [false,false,false] 0 (GX (c_1,s_2,cg)) (GZ r):=by
 show Run _ _ (GY (c_1,s_2,cg) r) [.code Wc] _
 refine rI 18 [(0,aa c_1),(1,ai s_2),(2,I cg)] [] 1 ?_
 unfold Dt at h
 refine ck 10 [3,7,8] [] [1] [] [.hp 1 0 [] 2 0 0,aa c_1,ai s_2] [some ⟨0,2,[aa c_1]⟩] 81 (by kernel_rfl) ?_
 obtain⟨r4,hr4,h⟩:=bS h
 refine oq 97 (B r4) rfl (cP (afQ hr4)) ?_
 refine cq 1 [10] [B r4] 113 ?_
 obtain⟨y5,hy5,hy51,hy52⟩:=bJ h
 have j5:∀u5,y5=.inr u5→Run Nx 0 (GY (c_1,s_2,cg) r) (.code (cR (cR Wc))::[]) (sT 18 [(6,B u5)] [] 1):=by
  intro u5 hu
  replace h:=hy52 u5 hu
  obtain rfl:=sI h
  exact rP [B u5]
 have r5:∀r',y5=.inl r'→∀st,GY (c_1,s_2,cg) r' st→(GY (c_1,s_2,cg) r) st:=fun r' e st hq=>by rw[hy51 r' e] at hq;exact hq
 replace h:=hy5
 refine sp 10 h rfl ?_ ?_<;>intro h
 ·refine cq 3 [11,13] [I cg,.isl false (c_1.Parties.map str)] 161 ?_
  refine oy 177 (I (len c_1.Parties)) rfl (bw rfl rfl rfl (bN rfl)) ?_
  refine cq 1 [15] [I (ac ((len c_1.Parties) - 1))] 193 ?_
  obtain⟨r6,hr6,h⟩:=bS h
  refine oy 209 (B r6) rfl (cP (eG hr6)) ?_
  refine cq 3 [6] [B r6] 241 ?_
  exact rf [6] [] (j5 _ (an h) :)
 ·refine cq 9 [6] [B false] 241 ?_
  exact rf [6] [] (j5 _ (an h) :)
theorem We {G:b7}:bZ G 65 Du:=gT 3 0 (aO WV (aO gE bv)) cf Tryz.func65 (fun a r h=>ZK a.1 a.2.1 a.2.2 r h)
def G1:(State×(List Int)×Int)→List V:=cA bH (cA (gj I) (oA I))
def G3 (r:(List Int)):V×List V:=(.usl 1 (r.map I),[])
noncomputable def Dv :=bi [false,false,false] G1 G3 fun x=>wd x.1 x.2.1 x.2.2
theorem afy {s_1:State}{dQ:List Int}{k_3:Int}{r}(h:wd s_1 dQ k_3=some r):Dv.F (G1 (s_1,dQ,k_3))=some (G3 r):=aJ (aN cd (aN (cn bc) (aK bc))) h
noncomputable def yg :=aH Tryz.f114
noncomputable def G2 :=ce []
def Ny (x:State×(List Int)×Int)(r:(List Int)):St→Prop:=QF G2 Tryz.f114 [false,false,false] (G1 x) (G3 r)
theorem P8 (s_1:State)(dQ:List Int)(k_3:Int):cj G2 0 (Ny (s_1,dQ,k_3)) (cL (cL (cL (cR (cR yg))))) 0 (pX s_1 dQ k_3) (fun u=>(sT 45 [(1,.isl false (dQ.map I)),(2,I k_3),(7,I u)] [] 1)) fun x4=>(sT 45 [(1,.isl false (dQ.map I)),(2,I k_3),(3,.hp 1 0 [] 5 0 0),(7,I x4)] [⟨0,5,[ai s_1]⟩] 2):=ef (Be s_1 dQ k_3) fun {Q K} hK self ih x4 y h hr hn=>by
 unfold l6 at h
 refine aq 2 ?_
 refine eb [0,1,3,7,15,7,7,71,231,487,1023,2047,4095,7,8199,7,57351,122887,253959,524287,1048575] rfl (by decide +kernel) ?_
 refine dk 3 [12,11,10] [B (decide (x4>0)),B (decide (x4>0)),I x4] ?_
 obtain⟨y5,hy5,hy51,hy52⟩:=bL h
 have j5:∀u5,y5=.inr u5→Run G2 0 Q (.code (cR (cL (cL (cL (cL (cR (cR yg)))))))::.code (cR (cL (cL (cL (cR (cR yg))))))::.lp (cL (cL (cL (cR (cR yg)))))::.blk 0::K) (sT 45 [(1,.isl false (dQ.map I)),(2,I k_3),(3,.hp 1 0 [] 5 0 0),(7,I x4),(30,B u5)] [⟨0,5,[ai s_1]⟩] 2):=by
  intro u5 hu
  replace h:=hy52 u5 hu
  refine sq h ?_ ?_<;>intro h
  ·refine aq 1 ?_
   refine cq 7 [7] [I (ac (x4 - 1))] 50 ?_
   refine cY ?_
   exact rf [1,2,3,7] [1] (ih _ _ h hr hn :)
  ·refine aq 1 ?_
   exact rf [1,2,7] [] (hn _ (an h) :) (hk:=hK)
 have r5:∀r',y5=.inl r'→∀st,Ny (s_1,dQ,k_3) r' st→Q st:=fun r' e st hq=>hr r' (hy51 r' e) st hq
 replace h:=hy5
 refine sp 12 h rfl ?_ ?_<;>intro h
 ·refine dy [1] [] (.hp 1 0 [] 5 0 2) rfl (az rfl rfl rfl) ?_
  refine dy [1] [] (.isl false (s_1.Duties.map ah)) rfl (aX rfl rfl) ?_
  refine dk 3 [17,16,15] [I (ac (x4 - 1)),I x4,.isl false (dQ.map I)] ?_
  obtain⟨e6,he6,h⟩:=bS h
  refine dy [] [] (.iptr (I e6) 0) rfl (al rfl rfl rfl (bo rfl rfl rfl rfl he6)) ?_
  refine dy [] [] (I e6) rfl (aX rfl rfl) ?_
  obtain⟨e7,he7,h⟩:=bS h
  refine dy [] [] (.iptr (ah e7) 0) rfl (al rfl rfl rfl (bo rfl rfl rfl rfl he7)) ?_
  refine dy [] [] (.iptr (ah e7) 2) rfl (az rfl rfl rfl) ?_
  refine dy [] [] (I e7.Due) rfl (aX rfl rfl) ?_
  refine dy [1] [] (.hp 1 0 [] 5 0 2) rfl (az rfl rfl rfl) ?_
  refine dy [1] [] (.isl false (s_1.Duties.map ah)) rfl (aX rfl rfl) ?_
  refine dk 1 [25] [I k_3] ?_
  obtain⟨e8,he8,h⟩:=bS h
  refine dy [] [] (.iptr (ah e8) 0) rfl (al rfl rfl rfl (bo rfl rfl rfl rfl he8)) ?_
  refine dy [] [] (.iptr (ah e8) 2) rfl (az rfl rfl rfl) ?_
  refine dy [] [] (I e8.Due) rfl (aX rfl rfl) ?_
  refine dk 2 [30,29] [B (decide (e7.Due>e8.Due)),B (decide (e7.Due>e8.Due))] ?_
  refine de 338 rfl rfl ?_
  exact rf [1,2,3,7,30] [1] (j5 _ (an h) :)
 ·refine dk 18 [30,29,28,27,26,25,24,23,22,21,20,19,18,17,16,15,14,13] [B false,.und,.und,.und,.und,.und,.und,.und,.und,.und,.und,.und,.und,.und,.und,.und,.und,.und] ?_
  refine de 338 rfl rfl ?_
  exact rf [1,2,3,7,30] [1] (j5 _ (an h) :)
theorem ZL (s_1:State)(dQ:List Int)(k_3:Int)(r:(List Int))(h:wd s_1 dQ k_3=some r):br G2 Tryz.f114 [false,false,false] 0 (G1 (s_1,dQ,k_3)) (G3 r):=by
 show Run _ _ (Ny (s_1,dQ,k_3) r) [.code yg] _
 refine rI 45 [(0,ai s_1),(1,.isl false (dQ.map I)),(2,I k_3)] [] 1 ?_
 unfold wd at h
 refine ck 8 [3,8] [] [1] [] [.hp 1 0 [] 5 0 0,.isl false (dQ.map I)] [some ⟨0,5,[ai s_1]⟩] 49 (by kernel_rfl) ?_
 refine oq 65 (I (len dQ)) rfl (bw rfl rfl rfl (bN rfl)) ?_
 refine cq 4 [7] [I (len dQ)] 81 ?_
 obtain⟨y9,hy9,hy91,hy92⟩:=bJ h
 refine bO rfl ?_
 refine rf [1,2,3,7] [1] (P8 s_1 dQ k_3 rfl (len dQ) _ hy9 (fun r' e st hq=>by rw[hy91 r' e] at hq;exact hq) fun u9 hu=>?_)
 replace h:=hy92 u9 hu
 refine aq 1 ?_
 refine eb [0,0,0,6,15,0,32,127,0,0,768,2047,4095] rfl (by decide +kernel) ?_
 refine dq [] [] (.hs 1 0 [] 1 0 0) rfl (eM rfl (kI (f:=I) (xs:=[]) (z:=I (0)) (es:=[]) (ws:=[]) rfl rfl rfl (by decide) rfl (dY rfl) rfl)) ?_
 refine dk 2 [35,34] [I u9,.isl false (dQ.map I)] ?_
 obtain⟨s10,hs10,h⟩:=bS h
 refine dq [] [] (.isl false (s10.map I)) rfl (iD rfl rfl rfl rfl (zu rfl rfl (fun y=>(rX y).1) rfl rfl hs10)) ?_
 obtain⟨a11,ha11,h⟩:=bS h
 refine dq [1] [1] (.hs 65 0 [] 1 0 (a11.map I).length) rfl (kJ rfl rfl rfl rfl rfl (pn (path:=[]) (es0:=[]) (f:=I) (xs:=([]:List Int)) (ys:=s10) rfl rfl Pj rfl rfl rfl rfl rfl (by decide) rX ha11 rfl sV)) ?_
 refine dk 1 [38] [I k_3] ?_
 refine dq [] [] (.hs 97 0 [] 1 0 1) rfl (eM rfl (kI (f:=I) (xs:=[]) (z:=I (0)) (es:=[I k_3]) (ws:=[I k_3]) rfl rfl rfl (by decide) rfl (dY rfl) rfl)) ?_
 obtain⟨a12,ha12,h⟩:=bS h
 refine dq [65,97] [65] (.hs 113 0 [] 1 0 (a12.map I).length) rfl (kJ rfl rfl rfl rfl rfl (pn (path:=[]) (f:=I) (xs:=a11) (ys:=[k_3]) rfl rfl (vO rfl rfl rfl) rfl rfl rfl aE rfl (by decide) rX ha12 rfl sV)) ?_ (Jp rfl (IB (path:=[]) (f:=I) (xs:=[k_3]) rfl rfl aE af0 rfl))
 refine dk 2 [42,41] [I u9,.isl false (dQ.map I)] ?_
 obtain⟨s13,hs13,h⟩:=bS h
 refine dq [] [] (.isl false (s13.map I)) rfl (iD rfl rfl rfl rfl (zu rfl rfl (fun y=>(rX y).1) rfl rfl hs13)) ?_
 obtain⟨a14,ha14,h⟩:=bS h
 refine dq [113] [113] (.hs 177 0 [] 1 0 (a14.map I).length) rfl (kJ rfl rfl rfl rfl rfl (pn (path:=[]) (f:=I) (xs:=a12) (ys:=s13) rfl rfl Pj rfl rfl rfl aE rfl (by decide) rX ha14 rfl sV)) ?_
 refine dk 1 [6] [.hs 177 0 [] 1 0 (a14.map I).length] ?_
 refine de 209 rfl rfl ?_
 obtain rfl:=sI h
 exact b8 rfl ⟨_,fin (vs:=[.hs 177 0 [] 1 0 (a14.map I).length]) rfl (eV (fZ rfl (dx rfl rfl)) dU) rfl (cu (cu (cu eN))),eH⟩
theorem Wf {G:b7}:bZ G 114 Dv:=gT 3 0 bv cf Tryz.func114 (fun a r h=>ZL a.1 a.2.1 a.2.2 r h)
def GU:(Contract×State×Int×Int)→List V:=cA aP (cA bH (cA I (oA I)))
def GV (r:(List Int)):V×List V:=(.usl 1 (r.map I),[])
noncomputable def Ds :=bi [false,false,false,false] GU GV fun x=>Dr x.1 x.2.1 x.2.2.1 x.2.2.2
theorem afw {c_1:Contract}{s_2:State}{d9:Int}{fx:Int}{r}(h:Dr c_1 s_2 d9 fx=some r):Ds.F (GU (c_1,s_2,d9,fx))=some (GV r):=aJ (aN bb (aN cd (aN bc (aK bc)))) h
noncomputable def Wa :=aH Tryz.f67
noncomputable abbrev mK :=cL (cL (cR (cL (cR (cR Wa)))))
noncomputable abbrev rS :=cR (cR mK)
noncomputable abbrev uY :=cR (cR (cL (cL (cR mK))))
noncomputable def pd :=ce [(114,Dv)]
def Nw (x:Contract×State×Int×Int)(r:(List Int)):St→Prop:=QF pd Tryz.f67 [false,false,false,false] (GU x) (GV r)
theorem P7 (c_1:Contract)(s_2:State)(d9:Int)(fx:Int):cj pd 0 (Nw (c_1,s_2,d9,fx)) mK 0 (lq c_1 s_2 d9 fx) (fun u=>(sT 62 [(9,.hs 1 0 [] 1 0 (u.map I).length)] [⟨0,1,u.map I⟩] 2)) fun x5=>(sT 62 [(2,I d9),(3,I fx),(4,.hp 1 0 [] 2 0 0),(5,.hp 2 0 [] 5 0 0),(9,.hs 3 0 [] 1 0 (x5.2.map I).length),(10,I x5.1)] [⟨0,2,[aa c_1]⟩,⟨0,5,[ai s_2]⟩,⟨0,1,x5.2.map I⟩] 4):=ef (Bd c_1 s_2 d9 fx) fun {Q K} hK self ih x5 y h hr hn=>by
 unfold l5 at h
 refine cq 6 [13,15] [I x5.1,.isl false (s_2.Duties.map ah)] 52 ?_
 refine oq 68 (I (len s_2.Duties)) rfl (bw rfl rfl rfl (bN rfl)) ?_
 refine cq 2 [17] [B (decide (x5.1<(len s_2.Duties)))] 84 ?_
 refine sq h ?_ ?_<;>intro h
 ·refine aq 1 ?_
  refine aq 3 ?_
  refine eb [0,1,0,4,0,28,60,124,255,511,0,2047] rfl (by decide +kernel) ?_
  refine dq [1] [] (.hp 1 0 [] 2 0 1) rfl (az rfl rfl rfl) ?_
  refine dq [1] [] (.isl false (c_1.Clauses.map au)) rfl (aX rfl rfl) ?_
  refine dq [2] [] (.hp 2 0 [] 5 0 2) rfl (az rfl rfl rfl) ?_
  refine dq [2] [] (.isl false (s_2.Duties.map ah)) rfl (aX rfl rfl) ?_
  refine dk 1 [24] [I x5.1] ?_
  obtain⟨e6,he6,h⟩:=bS h
  refine dq [] [] (.iptr (ah e6) 0) rfl (al rfl rfl rfl (bo rfl rfl rfl rfl he6)) ?_
  refine dq [] [] (.iptr (ah e6) 0) rfl (az rfl rfl rfl) ?_
  refine dq [] [] (I e6.Clause) rfl (aX rfl rfl) ?_
  obtain⟨e7,he7,h⟩:=bS h
  refine dq [] [] (.iptr (aB e7) 0) rfl (al rfl rfl rfl (bo rfl rfl rfl rfl he7)) ?_
  refine dq [] [] (aB e7) rfl (aX rfl rfl) ?_
  refine dq [] [] (.hp 244 0 [] 12 0 0) rfl (aaL (z:=.agg [str ([]),I (0),I (0),str ([]),I (0),I (0),I (0),str ([]),I (0),.isl true [],I (0),str ([])]) rfl rfl rfl) ?_
  refine dz [244] [244] rfl (et rfl rfl (dG (path:=[]) (pl:=true) (e':=aB e7) (es2':=[aB e7]) rfl (ba rfl) rfl rfl rfl aE rfl rfl rfl rfl rfl cM 0 rfl)) ?_
  refine de 276 rfl rfl ?_
  refine cq 5 [31,32] [.isl false (s_2.Duties.map ah),I x5.1] 324 ?_
  obtain⟨e8,he8,h⟩:=bS h
  refine oq 340 (.iptr (ah e8) 0) rfl (al rfl rfl rfl (bo rfl rfl rfl rfl he8)) ?_
  refine cq 4 [37] [B (e8.Status==1)] 404 ?_
  obtain⟨u9,hu9,h⟩:=lJ h
  have j9:Run pd 0 Q (.code uY::.blk 1::.code rS::.lp mK::.blk 0::K) (sT 62 [(2,I d9),(3,I fx),(4,.hp 1 0 [] 2 0 0),(5,.hp 2 0 [] 5 0 0),(9,.hs 3 0 [] 1 0 (x5.2.map I).length),(10,I x5.1),(56,B u9)] [⟨0,2,[aa c_1]⟩,⟨0,5,[ai s_2]⟩,⟨0,1,x5.2.map I⟩] 4):=by
   obtain⟨y10,hy10,hy101,hy102⟩:=bL h
   have j10:∀u10,y10=.inr u10→Run pd 0 Q (.blk 1::.code rS::.lp mK::.blk 0::K) (sT 62 [(2,I d9),(3,I fx),(4,.hp 1 0 [] 2 0 0),(5,.hp 2 0 [] 5 0 0),(9,.hs 3 0 [] 1 0 (u10.map I).length),(10,I x5.1)] [⟨0,2,[aa c_1]⟩,⟨0,5,[ai s_2]⟩,⟨0,1,u10.map I⟩] 4):=by
    intro u10 hu
    replace h:=hy102 u10 hu
    refine cq 6 [10] [I (ac (x5.1+1))] 52 ?_
    refine cY ?_
    exact rf [2,3,4,5,9,10] [1,2,3] (ih _ _ h hr hn :)
   have r10:∀r',y10=.inl r'→∀st,Nw (c_1,s_2,d9,fx) r' st→Q st:=fun r' e st hq=>hr r' (hy101 r' e) st hq
   replace h:=hy10
   refine sq h ?_ ?_<;>intro h
   ·refine cq 4 [57,58,59] [ai s_2,.hs 3 0 [] 1 0 (x5.2.map I).length,I x5.1] 52 ?_
    obtain⟨r11,hr11,h⟩:=bS h
    refine oq 68 (.hs 52 0 [] 1 0 (r11.map I).length) rfl (bG rfl rfl (bX rfl rfl rfl (bg (bT rfl) (bg (xp rfl rfl (dI (f:=I) (g:=I) (xs:=x5.2) rfl rfl (bP iY))) (bg (bT rfl) cX))) (afy hr11) (.inl (by simp[cT,dE,str,kN (f:=I) qO])) dF rfl rfl rfl)) ?_
    refine cq 2 [9] [.hs 52 0 [] 1 0 (r11.map I).length] 84 ?_
    exact rf [2,3,4,5,9,10] [1,2,52] (j10 _ (an h) :)
   ·refine aq 1 ?_
    exact rf [2,3,4,5,9,10] [1,2,3] (j10 _ (an h) :)
  replace h:=hu9
  clear hu9
  refine sp 37 h rfl ?_ ?_<;>intro h
  ·refine cq 3 [40] [B (decide (d9<0))] 452 ?_
   obtain⟨u12,hu12,h⟩:=lJ h
   have j12:Run pd 0 Q (.code uY::.blk 1::.code rS::.lp mK::.blk 0::K) (sT 62 [(2,I d9),(3,I fx),(4,.hp 1 0 [] 2 0 0),(5,.hp 2 0 [] 5 0 0),(9,.hs 3 0 [] 1 0 (x5.2.map I).length),(10,I x5.1),(56,B u12)] [⟨0,2,[aa c_1]⟩,⟨0,5,[ai s_2]⟩,⟨0,1,x5.2.map I⟩] 4):=by
    subst h
    exact rf [2,3,4,5,9,10,56] [1,2,3] (j9 :)
   replace h:=hu12
   clear hu12
   refine sp 40 h rfl ?_ ?_<;>intro h
   ·refine cq 10 [47,50] [B true,B (decide (fx<0))] 612 ?_
    obtain⟨u13,hu13,h⟩:=lJ h
    have j13:Run pd 0 Q (.code uY::.blk 1::.code rS::.lp mK::.blk 0::K) (sT 62 [(2,I d9),(3,I fx),(4,.hp 1 0 [] 2 0 0),(5,.hp 2 0 [] 5 0 0),(9,.hs 3 0 [] 1 0 (x5.2.map I).length),(10,I x5.1),(56,B u13)] [⟨0,2,[aa c_1]⟩,⟨0,5,[ai s_2]⟩,⟨0,1,x5.2.map I⟩] 4):=by
     subst h
     exact rf [2,3,4,5,9,10,56] [1,2,3] (j12 :)
    replace h:=hu13
    clear hu13
    refine sp 50 h rfl ?_ ?_<;>intro h
    ·refine cq 7 [56] [B true] 708 ?_
     subst h
     exact rf [2,3,4,5,9,10,56] [1,2,3] (j13 :)
    ·refine cq 7 [56] [B (e7.Other==fx)] 708 ?_
     subst h
     exact rf [2,3,4,5,9,10,56] [1,2,3] (j13 :)
   ·refine cq 7 [47] [B (e7.Party==d9)] 564 ?_
    obtain⟨u14,hu14,h⟩:=lJ h
    have j14:Run pd 0 Q (.code uY::.blk 1::.code rS::.lp mK::.blk 0::K) (sT 62 [(2,I d9),(3,I fx),(4,.hp 1 0 [] 2 0 0),(5,.hp 2 0 [] 5 0 0),(9,.hs 3 0 [] 1 0 (x5.2.map I).length),(10,I x5.1),(56,B u14)] [⟨0,2,[aa c_1]⟩,⟨0,5,[ai s_2]⟩,⟨0,1,x5.2.map I⟩] 4):=by
     subst h
     exact rf [2,3,4,5,9,10,56] [1,2,3] (j12 :)
    replace h:=hu14
    clear hu14
    refine sp 47 h rfl ?_ ?_<;>intro h
    ·refine cq 3 [50] [B (decide (fx<0))] 612 ?_
     obtain⟨u15,hu15,h⟩:=lJ h
     have j15:Run pd 0 Q (.code uY::.blk 1::.code rS::.lp mK::.blk 0::K) (sT 62 [(2,I d9),(3,I fx),(4,.hp 1 0 [] 2 0 0),(5,.hp 2 0 [] 5 0 0),(9,.hs 3 0 [] 1 0 (x5.2.map I).length),(10,I x5.1),(56,B u15)] [⟨0,2,[aa c_1]⟩,⟨0,5,[ai s_2]⟩,⟨0,1,x5.2.map I⟩] 4):=by
      subst h
      exact rf [2,3,4,5,9,10,56] [1,2,3] (j14 :)
     replace h:=hu15
     clear hu15
     refine sp 50 h rfl ?_ ?_<;>intro h
     ·refine cq 7 [56] [B true] 708 ?_
      subst h
      exact rf [2,3,4,5,9,10,56] [1,2,3] (j15 :)
     ·refine cq 7 [56] [B (e7.Other==fx)] 708 ?_
      subst h
      exact rf [2,3,4,5,9,10,56] [1,2,3] (j15 :)
    ·refine cq 10 [56] [B false] 708 ?_
     subst h
     exact rf [2,3,4,5,9,10,56] [1,2,3] (j14 :)
  ·refine cq 20 [56] [B false] 708 ?_
   subst h
   exact rf [2,3,4,5,9,10,56] [1,2,3] (j9 :)
 ·refine aq 1 ?_
  exact rf [9] [3] (hn _ (an h) :) (hk:=hK)
theorem ZJ (c_1:Contract)(s_2:State)(d9:Int)(fx:Int)(r:(List Int))(h:Dr c_1 s_2 d9 fx=some r):br pd Tryz.f67 [false,false,false,false] 0 (GU (c_1,s_2,d9,fx)) (GV r):=by
 show Run _ _ (Nw (c_1,s_2,d9,fx) r) [.code Wa] _
 refine rI 62 [(0,aa c_1),(1,ai s_2),(2,I d9),(3,I fx)] [] 1 ?_
 unfold Dr at h
 refine ck 8 [4,5] [] [1,17] [] [.hp 1 0 [] 2 0 0,.hp 17 0 [] 5 0 0] [some ⟨0,2,[aa c_1]⟩,some ⟨0,5,[ai s_2]⟩] 49 (by kernel_rfl) ?_
 refine oq 65 (.hs 49 0 [] 1 0 0) rfl (eM rfl (kI (f:=I) (xs:=[]) (z:=I (0)) (es:=[]) (ws:=[]) rfl rfl rfl (by decide) rfl (dY rfl) rfl)) ?_
 refine cq 8 [9,10] [.hs 49 0 [] 1 0 0,I (0)] 97 ?_
 obtain⟨y16,hy16,hy161,hy162⟩:=bJ h
 refine bO rfl ?_
 refine rf [2,3,4,5,9,10] [1,17,49] (P7 c_1 s_2 d9 fx rfl (0,[]) _ hy16 (fun r' e st hq=>by rw[hy161 r' e] at hq;exact hq) fun u16 hu=>?_)
 replace h:=hy162 u16 hu
 refine cq 5 [8] [.hs 1 0 [] 1 0 (u16.map I).length] 34 ?_
 obtain rfl:=sI h
 exact b8 rfl ⟨_,fin (vs:=[.hs 1 0 [] 1 0 (u16.map I).length]) rfl (eV (fZ rfl (dx rfl rfl)) dU) rfl (cu (cu (cu (cu eN)))),eH⟩
theorem Wb {G:b7}:bZ G 67 Ds:=gT 4 0 (aO Wf bv) cf Tryz.func67 (fun a r h=>ZJ a.1 a.2.1 a.2.2.1 a.2.2.2 r h)
def GS:(Contract×State×Int)→List V:=cA aP (cA bH (oA I))
def GT (r:(List Int)×Bool):V×List V:=(.tup [.usl 1 (r.1.map I),B r.2],[])
noncomputable def Dq :=bi [false,false,false] GS GT fun x=>Dp x.1 x.2.1 x.2.2
theorem V8 {c_1:Contract}{s_2:State}{cg:Int}{r}(h:Dp c_1 s_2 cg=some r):Dq.F (GS (c_1,s_2,cg))=some (GT r):=aJ (aN bb (aN cd (aK bc))) h
noncomputable def afv :=aH Tryz.f30
noncomputable def V7 :=ce [(65,Du),(67,Ds)]
def afu (x:Contract×State×Int)(r:(List Int)×Bool):St→Prop:=QF V7 Tryz.f30 [false,false,false] (GS x) (GT r)
theorem ZI (c_1:Contract)(s_2:State)(cg:Int)(r:(List Int)×Bool)(h:Dp c_1 s_2 cg=some r):br V7 Tryz.f30 [false,false,false] 0 (GS (c_1,s_2,cg)) (GT r):=by
 show Run _ _ (afu (c_1,s_2,cg) r) [.code afv] _
 refine rI 18 [(0,aa c_1),(1,ai s_2),(2,I cg)] [] 1 ?_
 unfold Dp at h
 refine ck 13 [3,4,8,9,10] [] [1,17] [] [.hp 1 0 [] 2 0 0,.hp 17 0 [] 5 0 0,aa c_1,ai s_2,I cg] [some ⟨0,2,[aa c_1]⟩,some ⟨0,5,[ai s_2]⟩] 113 (by kernel_rfl) ?_
 obtain⟨r4,hr4,h⟩:=bS h
 refine oq 129 (B r4) rfl (cP (afx hr4)) ?_
 refine cq 2 [12] [B (!r4)] 145 ?_
 refine sq h ?_ ?_<;>intro h
 ·refine aq 2 ?_
  refine oq 161 (.hs 145 0 [] 1 0 0) rfl (eM rfl (kI (f:=I) (xs:=[]) (z:=I (0)) (es:=[]) (ws:=[]) rfl rfl rfl (by decide) rfl (dY rfl) rfl)) ?_
  refine cq 3 [6,7] [.hs 145 0 [] 1 0 0,B false] 193 ?_
  obtain rfl:=sI h
  exact b8 rfl ⟨_,fin (vs:=[.hs 145 0 [] 1 0 0,B false]) rfl (eV (fZ rfl (dx (k:=0) (es:=[]) rfl rfl)) (eV (ba rfl) dU)) rfl (cu (cu (cu eN))),eH⟩
 ·refine aq 1 ?_
  refine cq 5 [14,15,16] [aa c_1,ai s_2,I cg] 193 ?_
  obtain⟨r5,hr5,h⟩:=bS h
  refine oq 209 (.hs 193 0 [] 1 0 (r5.map I).length) rfl (cP (afw hr5)) ?_
  refine cq 3 [6,7] [.hs 193 0 [] 1 0 (r5.map I).length,B true] 241 ?_
  obtain rfl:=sI h
  exact b8 rfl ⟨_,fin (vs:=[.hs 193 0 [] 1 0 (r5.map I).length,B true]) rfl (eV (fZ rfl (dx rfl rfl)) (eV (ba rfl) dU)) rfl (cu (cu (cu eN))),eH⟩
theorem V9 {G:b7}:bZ G 30 Dq:=gT 3 0 (aO We (aO Wb bv)) cf Tryz.func30 (fun a r h=>ZI a.1 a.2.1 a.2.2 r h)
def EJ:(Int×Int×Int)→List V:=cA I (cA I (oA I))
def EK (r:Bool):V×List V:=(B r,[])
noncomputable def je :=bi [false,false,false] EJ EK fun x=>jp x.1 x.2.1 x.2.2
theorem jd {n_1:Int}{pC:Int}{mr:Int}{r}(h:jp n_1 pC mr=some r):je.F (EJ (n_1,pC,mr))=some (EK r):=aJ (aN bc (aN bc (aK bc))) h
noncomputable def TC :=aH Tryz.f99
noncomputable def MN :=ce []
def TB (x:Int×Int×Int)(r:Bool):St→Prop:=QF MN Tryz.f99 [false,false,false] (EJ x) (EK r)
theorem YB (n_1:Int)(pC:Int)(mr:Int)(r:Bool)(h:jp n_1 pC mr=some r):br MN Tryz.f99 [false,false,false] 0 (EJ (n_1,pC,mr)) (EK r):=by
 show Run _ _ (TB (n_1,pC,mr) r) [.code TC] _
 refine rI 15 [(0,I n_1),(1,I pC),(2,I mr)] [] 1 ?_
 unfold jp at h
 refine cq 10 [10] [B (decide (n_1≥pC))] 81 ?_
 obtain⟨u4,hu4,h⟩:=lJ h
 have j4:Run MN 0 (TB (n_1,pC,mr) r) (.code (cR (cR TC))::[]) (sT 15 [(6,B u4)] [] 1):=by
  obtain rfl:=sI h
  exact rP [B u4]
 replace h:=hu4
 clear hu4
 refine sp 10 h rfl ?_ ?_<;>intro h
 ·refine cq 6 [6] [B (decide (n_1≤mr))] 161 ?_
  subst h
  exact rf [6] [] (j4 :)
 ·refine cq 6 [6] [B false] 161 ?_
  subst h
  exact rf [6] [] (j4 :)
theorem ju {G:b7}:bZ G 99 je:=gT 3 0 bv cf Tryz.func99 (fun a r h=>YB a.1 a.2.1 a.2.2 r h)
noncomputable def kZ:Ent:=⟨[false,false],wD (qw str) (qw (V.int .u8)) fun s c=>some (I ((Lib.countByte s c.toNat.toUInt8:Nat):Int),[])⟩
theorem Kw {s:ae}{c r:Int}(h:zz s c=some r):kZ.F [str s,.int .u8 c]=some (I r,[]):=by
 cases h
 simp only[kZ,wD,IH bQ,IH Yq,Option.bind_some]
theorem Kx:Extern.findNext Tryz.f199=none:=by kernel_rfl
theorem Ky:Extern.find Tryz.f199=some Extern.BytealgCount.count:=by kernel_rfl
theorem Am {G:b7}:bZ G 199 kZ:=Rg (g:=fun s c=>((Lib.countByte s c.toNat.toUInt8:Nat):Int)) Tryz.func199 rfl (by decide) Kx Ky fun s c w=>Lib.run_countString s c w
noncomputable def i8:Ent:=⟨[false,false],wD (qw str) (qw (V.int .u8)) fun s c=>some (I (Lib.indexByte s c.toNat.toUInt8),[])⟩
theorem zA {s:ae}{c r:Int}(h:sW s c=some r):i8.F [str s,.int .u8 c]=some (I r,[]):=by
 cases h
 simp only[i8,wD,IH bQ,IH Yq,Option.bind_some]
theorem zB:Extern.findNext Tryz.f232=none:=by kernel_rfl
theorem zC:Extern.find Tryz.f232=some Extern.BytealgIndexByte.indexByte:=by kernel_rfl
theorem vQ {G:b7}:bZ G 232 i8:=Rg (g:=fun s c=>Lib.indexByte s c.toNat.toUInt8) Tryz.func232 rfl (by decide) zB zC fun s c w=>Lib.run_indexByteString s c w
def EN:(ae×Int)→List V:=cA str (oA (V.int .u8))
def EO (r:Int):V×List V:=(I r,[])
noncomputable def Cb :=bi [false,false] EN EO fun x=>MR x.1 x.2
theorem adZ {s_1:ae}{c_2:Int}{r}(h:MR s_1 c_2=some r):Cb.F (EN (s_1,c_2))=some (EO r):=aJ (aN bQ (aK (Po (k:=.u8)))) h
noncomputable def ad1 :=aH Tryz.f218
noncomputable def TF :=ce [(232,i8)]
def ad0 (x:ae×Int)(r:Int):St→Prop:=QF TF Tryz.f218 [false,false] (EN x) (EO r)
theorem YD (s_1:ae)(c_2:Int)(r:Int)(h:MR s_1 c_2=some r):br TF Tryz.f218 [false,false] 0 (EN (s_1,c_2)) (EO r):=by
 show Run _ _ (ad0 (s_1,c_2) r) [.code ad1] _
 refine rI 8 [(0,str s_1),(1,.int .u8 c_2)] [] 1 ?_
 unfold MR at h
 refine cq 8 [5,6] [str s_1,.int .u8 c_2] 49 ?_
 obtain⟨r3,hr3,h⟩:=bS h
 refine oq 65 (I r3) rfl (cP (zA hr3)) ?_
 refine cq 2 [4] [I r3] 81 ?_
 obtain rfl:=sI h
 exact rP [I r3]
theorem TG {G:b7}:bZ G 218 Cb:=gT 2 0 (aO vQ bv) cf Tryz.func218 (fun a r h=>YD a.1 a.2 r h)
def EL:(ae×ae)→List V:=cA str (oA str)
def EM (r:Int):V×List V:=(I r,[])
noncomputable def Ca :=bi [false,false] EL EM fun x=>MO x.1 x.2
theorem adY {s_1:ae}{bq:ae}{r}(h:MO s_1 bq=some r):Ca.F (EL (s_1,bq))=some (EM r):=aJ (aN bQ (aK bQ)) h
noncomputable def MQ :=aH Tryz.f200
noncomputable def MP :=ce [(218,Cb)]
def TD (x:ae×ae)(r:Int):St→Prop:=QF MP Tryz.f200 [false,false] (EL x) (EM r)
theorem YC (s_1:ae)(bq:ae)(r:Int)(h:MO s_1 bq=some r):br MP Tryz.f200 [false,false] 0 (EL (s_1,bq)) (EM r):=by
 show Run _ _ (TD (s_1,bq) r) [.code MQ] _
 refine rI 143 [(0,str s_1),(1,str bq)] [] 1 ?_
 unfold MO at h
 refine cq 17 [5,19] [I (len bq),B ((len bq)==0)] 113 ?_
 obtain⟨u3,hu3,h⟩:=lJ h
 have j3:Run MP 0 (TD (s_1,bq) r) (.code (cR (cL (cL (cR (cR MQ)))))::.blk 0::.code (cR (cR (cR MQ)))::[]) (sT 143 [(0,str s_1),(1,str bq),(5,I (len bq)),(16,B u3)] [] 1):=by
  refine sq h ?_ ?_<;>intro h
  ·refine cq 4 [4] [I (0)] 17 ?_
   obtain rfl:=sI h
   exact rP [I (0)]
  ·refine cq 6 [24] [B ((len bq)==1)] 49 ?_
   refine sq h ?_ ?_<;>intro h
   ·refine cq 4 [27,28] [str s_1,str bq] 81 ?_
    obtain⟨c4,hc4,h⟩:=bS h
    refine oq 97 (.int .u8 (c4.toNat:Int)) rfl (oT rfl rfl (tx rfl rfl hc4)) ?_
    obtain⟨r5,hr5,h⟩:=bS h
    refine oq 113 (I r5) rfl (cP (adZ hr5)) ?_
    refine cq 2 [4] [I r5] 129 ?_
    obtain rfl:=sI h
    exact rP [I r5]
   ·refine cq 8 [31] [B (decide ((len bq)≥(len s_1)))] 129 ?_
    refine sq h ?_ ?_<;>intro h
    ·refine cq 4 [4] [I (-1)] 145 ?_
     obtain rfl:=sI h
     exact rP [I (-1)]
    ·cases h
 replace h:=hu3
 clear hu3
 refine sp 19 h rfl ?_ ?_<;>intro h
 ·refine cq 6 [16] [B true] 193 ?_
  subst h
  exact rf [0,1,5,16] [] (j3 :)
 ·refine cq 6 [16] [B (bq==s_1)] 193 ?_
  subst h
  exact rf [0,1,5,16] [] (j3 :)
theorem TE {G:b7}:bZ G 200 Ca:=gT 2 0 (aO TG bv) cf Tryz.func200 (fun a r h=>YC a.1 a.2 r h)
def H0:(ae×ae)→List V:=cA str (oA str)
def H1 (r:Int):V×List V:=(I r,[])
noncomputable def wo :=bi [false,false] H0 H1 fun x=>JP x.1 x.2
theorem W1 {s_1:ae}{bq:ae}{r}(h:JP s_1 bq=some r):wo.F (H0 (s_1,bq))=some (H1 r):=aJ (aN bQ (aK bQ)) h
noncomputable def afT :=aH Tryz.f188
noncomputable def WZ :=ce [(200,Ca)]
def afS (x:ae×ae)(r:Int):St→Prop:=QF WZ Tryz.f188 [false,false] (H0 x) (H1 r)
theorem aad (s_1:ae)(bq:ae)(r:Int)(h:JP s_1 bq=some r):br WZ Tryz.f188 [false,false] 0 (H0 (s_1,bq)) (H1 r):=by
 show Run _ _ (afS (s_1,bq) r) [.code afT] _
 refine rI 8 [(0,str s_1),(1,str bq)] [] 1 ?_
 unfold JP at h
 refine cq 8 [5,6] [str s_1,str bq] 49 ?_
 obtain⟨r3,hr3,h⟩:=bS h
 refine oq 65 (I r3) rfl (cP (adY hr3)) ?_
 refine cq 2 [4] [I r3] 81 ?_
 obtain rfl:=sI h
 exact rP [I r3]
theorem KL {G:b7}:bZ G 188 wo:=gT 2 0 (aO TE bv) cf Tryz.func188 (fun a r h=>aad a.1 a.2 r h)
def HY:(ae×ae)→List V:=cA str (oA str)
def HZ (r:Int):V×List V:=(I r,[])
noncomputable def DW :=bi [false,false] HY HZ fun x=>NR x.1 x.2
theorem afR {s_1:ae}{bq:ae}{r}(h:NR s_1 bq=some r):DW.F (HY (s_1,bq))=some (HZ r):=aJ (aN bQ (aK bQ)) h
noncomputable def WX :=aH Tryz.f187
noncomputable def NS :=ce [(199,kZ),(188,wo)]
def WW (x:ae×ae)(r:Int):St→Prop:=QF NS Tryz.f187 [false,false] (HY x) (HZ r)
theorem Qr (s_1:ae)(bq:ae):cj NS 0 (WW (s_1,bq)) (cL (cL (cR (cR (cR (cR WX)))))) 0 (QY s_1 bq) (fun u=>(sT 34 [] [] 1)) fun x5=>(sT 34 [(0,str x5.1),(1,str bq),(5,I x5.2)] [] 1):=ef (Qq s_1 bq) fun {Q K} hK self ih x5 y h hr hn=>by
 unfold tg at h
 refine cq 5 [20,21] [str x5.1,str bq] 33 ?_
 obtain⟨r6,hr6,h⟩:=bS h
 refine oq 49 (I r6) rfl (cP (W1 hr6)) ?_
 refine cq 8 [6,24] [I r6,B (r6==(-1))] 97 ?_
 refine sq h ?_ ?_<;>intro h
 ·refine cq 5 [4] [I x5.2] 129 ?_
  exact b8 rfl (hr _ (an h) _ (qp [I x5.2]))
 ·refine aq 1 ?_
  refine cq 12 [5,28,32] [I (ac (x5.2+1)),str x5.1,I (ac (r6+(len bq)))] 225 ?_
  obtain⟨s7,hs7,h⟩:=bS h
  refine oq 241 (str s7) rfl (iD rfl rfl rfl rfl (Pf rfl rfl rfl hs7)) ?_
  refine cq 3 [0] [str s7] 257 ?_
  refine cY ?_
  exact rf [0,1,5] [] (ih _ _ h hr hn :)
theorem aac (s_1:ae)(bq:ae)(r:Int)(h:NR s_1 bq=some r):br NS Tryz.f187 [false,false] 0 (HY (s_1,bq)) (HZ r):=by
 show Run _ _ (WW (s_1,bq) r) [.code WX] _
 refine rI 34 [(0,str s_1),(1,str bq)] [] 1 ?_
 unfold NR at h
 refine cq 11 [9] [B ((len bq)==0)] 65 ?_
 refine sq h ?_ ?_<;>intro h
 ·cases h
 ·refine aq 1 ?_
  refine cq 7 [15] [B ((len bq)==1)] 113 ?_
  refine sq h ?_ ?_<;>intro h
  ·refine cq 4 [16,17] [str s_1,str bq] 145 ?_
   obtain⟨c3,hc3,h⟩:=bS h
   refine oq 161 (.int .u8 (c3.toNat:Int)) rfl (oT rfl rfl (tx rfl rfl hc3)) ?_
   obtain⟨r4,hr4,h⟩:=bS h
   refine oq 177 (I r4) rfl (cP (Kw hr4)) ?_
   refine cq 2 [4] [I r4] 193 ?_
   obtain rfl:=sI h
   exact rP [I r4]
  ·refine aq 1 ?_
   refine cq 5 [5] [I (0)] 129 ?_
   obtain⟨y8,hy8,hy81,hy82⟩:=bJ h
   refine bO rfl ?_
   refine rf [0,1,5] [] (Qr s_1 bq rfl (s_1,0) _ hy8 (fun r' e st hq=>by rw[hy81 r' e] at hq;exact hq) fun u8 hu=>?_)
   replace h:=hy82 u8 hu
   cases h
theorem WY {G:b7}:bZ G 187 DW:=gT 2 0 (aO Am (aO KL bv)) cf Tryz.func187 (fun a r h=>aac a.1 a.2 r h)
def H4:(ae×ae×Int×Int)→List V:=cA str (cA str (cA I (oA I)))
def H6 (r:(List ae)):V×List V:=(.usl 1 (r.map str),[])
noncomputable def DZ :=bi [false,false,false,false] H4 H6 fun x=>NT x.1 x.2.1 x.2.2.1 x.2.2.2
theorem afX {s_1:ae}{ed:ae}{dS:Int}{n_4:Int}{r}(h:NT s_1 ed dS n_4=some r):DZ.F (H4 (s_1,ed,dS,n_4))=some (H6 r):=aJ (aN bQ (aN bQ (aN bc (aK bc)))) h
noncomputable def NU :=aH Tryz.f166
noncomputable abbrev acy :=cL (cL (cL (cR (cR (cR (cR (cR (cR (cR (cR NU))))))))))
noncomputable def H5 :=ce [(188,wo),(187,DW)]
def yE (x:ae×ae×Int×Int)(r:(List ae)):St→Prop:=QF H5 Tryz.f166 [false,false,false,false] (H4 x) (H6 r)
theorem Qs (s_1:ae)(ed:ae)(dS:Int)(n_4:Int)(u5:Int):cj H5 0 (yE (s_1,ed,dS,n_4)) acy 0 (zI s_1 ed dS n_4 u5) (fun u=>(sT 66 [(0,str u.1),(9,.hs 1 0 [] 1 0 (u.2.2.map str).length),(10,I u.2.1)] [⟨0,1,u.2.2.map str⟩] 2)) fun x7=>(sT 66 [(0,str x7.1),(1,str ed),(2,I dS),(3,I (ac ((if (ac ((len s_1)+1))<u5 then (ac ((len s_1)+1)) else u5) - 1))),(9,.hs 1 0 [] 1 0 (x7.2.2.map str).length),(10,I x7.2.1)] [⟨0,1,x7.2.2.map str⟩] 2):=ef (Bw s_1 ed dS n_4 u5) fun {Q K} hK self ih x7 y h hr hn=>by
 unfold th at h
 refine cq 7 [36] [B (decide (x7.2.1<(ac ((if (ac ((len s_1)+1))<u5 then (ac ((len s_1)+1)) else u5) - 1))))] 50 ?_
 refine sq h ?_ ?_<;>intro h
 ·refine aq 1 ?_
  refine cq 5 [37,38] [str x7.1,str ed] 82 ?_
  obtain⟨r8,hr8,h⟩:=bS h
  refine oq 98 (I r8) rfl (cP (W1 hr8)) ?_
  refine cq 8 [11,41] [I r8,B (decide (r8<0))] 146 ?_
  refine sq h ?_ ?_<;>intro h
  ·refine aq 1 ?_
   exact rf [0,9,10] [1] (hn _ (an h) :) (hk:=hK)
  ·refine aq 1 ?_
   refine cq 8 [42,43,44,47] [.hs 1 0 [] 1 0 (x7.2.2.map str).length,I x7.2.1,str x7.1,I (ac (r8+dS))] 242 ?_
   obtain⟨s9,hs9,h⟩:=bS h
   refine oq 258 (str s9) rfl (iD rfl rfl rfl rfl (Pf rfl rfl rfl hs9)) ?_
   obtain⟨e10,he10,h⟩:=bS h
   refine oq 274 (.hp 1 0 [] 1 (0+Int.toNat x7.2.1) 0) rfl (al rfl rfl rfl (cp (f:=str) (xs:=x7.2.2) rfl rfl rfl he10)) ?_
   refine o0 290 rfl rfl (et rfl rfl (dG (path:=[]) (pl:=true) (e':=str s9) (es2':=(bM x7.2.2 x7.2.1 s9).map str) rfl (ba rfl) rfl rfl rfl aE (bU (f:=str) (xs:=x7.2.2) he10) rfl rfl rfl (gD (f:=str) (xs:=x7.2.2) (y:=s9)) cM 0 rfl)) ?_
   try rw[←fK (f:=str) (xs:=x7.2.2) (i:=x7.2.1) (z:=s9)]
   refine cq 8 [50,54] [str x7.1,I (ac (r8+(len ed)))] 370 ?_
   obtain⟨s11,hs11,h⟩:=bS h
   refine oq 386 (str s11) rfl (iD rfl rfl rfl rfl (Pf rfl rfl rfl hs11)) ?_
   refine cq 8 [0,10] [str s11,I (ac (x7.2.1+1))] 450 ?_
   refine cY ?_
   exact rf [0,1,2,3,9,10] [1] (ih _ _ h hr hn :)
 ·refine aq 1 ?_
  exact rf [0,9,10] [1] (hn _ (an h) :) (hk:=hK)
theorem aaf (s_1:ae)(ed:ae)(dS:Int)(n_4:Int)(r:(List ae))(h:NT s_1 ed dS n_4=some r):br H5 Tryz.f166 [false,false,false,false] 0 (H4 (s_1,ed,dS,n_4)) (H6 r):=by
 show Run _ _ (yE (s_1,ed,dS,n_4) r) [.code NU] _
 refine rI 66 [(0,str s_1),(1,str ed),(2,I dS),(3,I n_4)] [] 1 ?_
 unfold NT at h
 refine cq 10 [13] [B (n_4==0)] 49 ?_
 refine sq h ?_ ?_<;>intro h
 ·refine cq 4 [8] [.isl true []] 65 ?_
  refine Rx 8 0 1 81 (.hs 65 0 [] 1 0 0) rfl rfl rfl rfl rfl ?_
  obtain rfl:=sI h
  exact b8 rfl ⟨_,fin (vs:=[.hs 65 0 [] 1 0 0]) rfl (eV (fZ rfl (dx (k:=0) (es:=[]) rfl rfl)) dU) rfl (cu (cu (cu (cu eN)))),eH⟩
 ·refine aq 1 ?_
  refine cq 6 [15] [B (ed==([]:ae))] 81 ?_
  refine sq h ?_ ?_<;>intro h
  ·cases h
  ·refine aq 1 ?_
   refine cq 6 [20] [B (decide (n_4<0))] 113 ?_
   obtain⟨y5,hy5,hy51,hy52⟩:=bJ h
   have j5:∀u5,y5=.inr u5→Run H5 0 (yE (s_1,ed,dS,n_4) r) (.code (cR (cR (cR (cR NU))))::[]) (sT 66 [(0,str s_1),(1,str ed),(2,I dS),(3,I u5)] [] 1):=by
    intro u5 hu
    replace h:=hy52 u5 hu
    refine cq 12 [3,30] [I (if (ac ((len s_1)+1))<u5 then (ac ((len s_1)+1)) else u5),I (if (ac ((len s_1)+1))<u5 then (ac ((len s_1)+1)) else u5)] 113 ?_
    obtain⟨m6,hm6,h⟩:=bS h
    refine oq 129 (.hs 113 0 [] 1 0 (m6.map str).length) rfl (lx rfl rfl (IW (f:=str) rfl rfl rfl (by decide) hm6 rfl)) ?_
    refine cq 14 [3,9,10] [I (ac ((if (ac ((len s_1)+1))<u5 then (ac ((len s_1)+1)) else u5) - 1)),.hs 113 0 [] 1 0 (m6.map str).length,I (0)] 209 ?_
    obtain⟨y12,hy12,hy121,hy122⟩:=bJ h
    refine bO rfl ?_
    refine rf [0,1,2,3,9,10] [113] (Qs s_1 ed dS n_4 u5 rfl (s_1,0,m6) _ hy12 (fun r' e st hq=>by rw[hy121 r' e] at hq;exact hq) fun u12 hu=>?_)
    replace h:=hy122 u12 hu
    refine cq 5 [58,59,60] [.hs 1 0 [] 1 0 (u12.2.2.map str).length,I u12.2.1,str u12.1] 50 ?_
    obtain⟨e13,he13,h⟩:=bS h
    refine oq 66 (.hp 1 0 [] 1 (0+Int.toNat u12.2.1) 0) rfl (al rfl rfl rfl (cp (f:=str) (xs:=u12.2.2) rfl rfl rfl he13)) ?_
    refine o0 82 rfl rfl (et rfl rfl (dG (path:=[]) (pl:=true) (e':=str u12.1) (es2':=(bM u12.2.2 u12.2.1 u12.1).map str) rfl (ba rfl) rfl rfl rfl aE (bU (f:=str) (xs:=u12.2.2) he13) rfl rfl rfl (gD (f:=str) (xs:=u12.2.2) (y:=u12.1)) cM 0 rfl)) ?_
    try rw[←fK (f:=str) (xs:=u12.2.2) (i:=u12.2.1) (z:=u12.1)]
    refine cq 6 [62,64] [.hs 1 0 [] 1 0 ((bM u12.2.2 u12.2.1 u12.1).map str).length,I (ac (u12.2.1+1))] 130 ?_
    obtain⟨s14,hs14,h⟩:=bS h
    refine oq 146 (.hs 1 0 [] 1 (0+Int.toNat (0)) (Int.toNat (ac (u12.2.1+1)) - Int.toNat (0))) rfl (iD rfl rfl rfl rfl (vM (f:=str) (xs:=(bM u12.2.2 u12.2.1 u12.1)) rfl rfl rfl rfl rfl hs14)) ?_
    refine cq 2 [8] [.hs 1 0 [] 1 (0+Int.toNat (0)) (Int.toNat (ac (u12.2.1+1)) - Int.toNat (0))] 162 ?_
    obtain⟨p15,hp15,h⟩:=bS h
    obtain rfl:=sI h
    exact b8 rfl ⟨_,fin (vs:=[.hs 1 0 [] 1 (0+Int.toNat (0)) (Int.toNat (ac (u12.2.1+1)) - Int.toNat (0))]) rfl (eV (fZ rfl (Xf (path:=[]) (f:=str) (xs:=(bM u12.2.2 u12.2.1 u12.1)) rfl rfl aE hp15 rfl sV)) dU) rfl (cu (cu (cu (cu eN)))),eH⟩
   have r5:∀r',y5=.inl r'→∀st,yE (s_1,ed,dS,n_4) r' st→(yE (s_1,ed,dS,n_4) r) st:=fun r' e st hq=>by rw[hy51 r' e] at hq;exact hq
   replace h:=hy5
   refine sq h ?_ ?_<;>intro h
   ·refine cq 3 [21,22] [str s_1,str ed] 145 ?_
    obtain⟨r16,hr16,h⟩:=bS h
    refine oq 161 (I r16) rfl (cP (afR hr16)) ?_
    refine cq 3 [3] [I (ac (r16+1))] 193 ?_
    exact rf [0,1,2,3] [] (j5 _ (an h) :)
   ·refine aq 1 ?_
    exact rf [0,1,2,3] [] (j5 _ (an h) :)
theorem W4 {G:b7}:bZ G 166 DZ:=gT 4 0 (aO KL (aO WY bv)) cf Tryz.func166 (fun a r h=>aaf a.1 a.2.1 a.2.2.1 a.2.2.2 r h)
def H2:(ae×ae)→List V:=cA str (oA str)
def H3 (r:(List ae)):V×List V:=(.usl 1 (r.map str),[])
noncomputable def DY :=bi [false,false] H2 H3 fun x=>DX x.1 x.2
theorem afU {s_1:ae}{ed:ae}{r}(h:DX s_1 ed=some r):DY.F (H2 (s_1,ed))=some (H3 r):=aJ (aN bQ (aK bQ)) h
noncomputable def afW :=aH Tryz.f130
noncomputable def W2 :=ce [(166,DZ)]
def afV (x:ae×ae)(r:(List ae)):St→Prop:=QF W2 Tryz.f130 [false,false] (H2 x) (H3 r)
theorem aae (s_1:ae)(ed:ae)(r:(List ae))(h:DX s_1 ed=some r):br W2 Tryz.f130 [false,false] 0 (H2 (s_1,ed)) (H3 r):=by
 show Run _ _ (afV (s_1,ed) r) [.code afW] _
 refine rI 8 [(0,str s_1),(1,str ed)] [] 1 ?_
 unfold DX at h
 refine cq 8 [5,6] [str s_1,str ed] 49 ?_
 obtain⟨r3,hr3,h⟩:=bS h
 refine oq 65 (.hs 49 0 [] 1 0 (r3.map str).length) rfl (cP (afX hr3)) ?_
 refine cq 2 [4] [.hs 49 0 [] 1 0 (r3.map str).length] 81 ?_
 obtain rfl:=sI h
 exact b8 rfl ⟨_,fin (vs:=[.hs 49 0 [] 1 0 (r3.map str).length]) rfl (eV (fZ rfl (dx rfl rfl)) dU) rfl (cu (cu eN)),eH⟩
theorem W3 {G:b7}:bZ G 130 DY:=gT 2 0 (aO W4 bv) cf Tryz.func130 (fun a r h=>aae a.1 a.2 r h)
def Gx:((List ae)×ae)→List V:=cA (gj str) (oA str)
def Gy (r:Int):V×List V:=(I r,[])
noncomputable def Dg :=bi [false,false] Gx Gy fun x=>Df x.1 x.2
theorem afo {s_1:List ae}{v_2:ae}{r}(h:Df s_1 v_2=some r):Dg.F (Gx (s_1,v_2))=some (Gy r):=aJ (aN (cn bQ) (aK bQ)) h
noncomputable def VU :=aH Tryz.f165
noncomputable def Np :=ce []
def VT (x:(List ae)×ae)(r:Int):St→Prop:=QF Np Tryz.f165 [false,false] (Gx x) (Gy r)
theorem PU (s_1:List ae)(v_2:ae):cj Np 0 (VT (s_1,v_2)) (cL (cL (cR (cL (cR VU))))) 0 (rQ s_1 v_2) (fun u=>(sT 19 [] [] 1)) fun x3=>(sT 19 [(0,.isl false (s_1.map str)),(1,str v_2),(7,I (len s_1)),(8,I x3)] [] 1):=ef (AV s_1 v_2) fun {Q K} hK self ih x3 y h hr hn=>by
 unfold l3 at h
 refine cq 5 [9] [B (decide (x3<(len s_1)))] 17 ?_
 refine sq h ?_ ?_<;>intro h
 ·refine aq 1 ?_
  refine cq 12 [5,11,12,13] [I x3,str v_2,.isl false (s_1.map str),I x3] 97 ?_
  obtain⟨e4,he4,h⟩:=bS h
  refine oq 113 (.iptr (str e4) 0) rfl (al rfl rfl rfl (bo rfl rfl rfl rfl he4)) ?_
  refine cq 3 [16] [B (v_2==e4)] 145 ?_
  refine sq h ?_ ?_<;>intro h
  ·refine cq 5 [4] [I x3] 177 ?_
   exact b8 rfl (hr _ (an h) _ (qp [I x3]))
  ·refine aq 1 ?_
   refine cq 5 [8] [I (ac (x3+1))] 177 ?_
   refine cY ?_
   exact rf [0,1,7,8] [] (ih _ _ h hr hn :)
 ·refine aq 1 ?_
  exact rf [] [] (hn _ (an h) :) (hk:=hK)
theorem ZA (s_1:List ae)(v_2:ae)(r:Int)(h:Df s_1 v_2=some r):br Np Tryz.f165 [false,false] 0 (Gx (s_1,v_2)) (Gy r):=by
 show Run _ _ (VT (s_1,v_2) r) [.code VU] _
 refine rI 19 [(0,.isl false (s_1.map str)),(1,str v_2)] [] 1 ?_
 unfold Df at h
 refine cq 8 [6] [.isl false (s_1.map str)] 33 ?_
 refine oq 49 (I (len s_1)) rfl (bw rfl rfl rfl (bN rfl)) ?_
 refine cq 3 [8] [I (0)] 65 ?_
 obtain⟨y5,hy5,hy51,hy52⟩:=bJ h
 refine bO rfl ?_
 refine rf [0,1,7,8] [] (PU s_1 v_2 rfl 0 _ hy5 (fun r' e st hq=>by rw[hy51 r' e] at hq;exact hq) fun u5 hu=>?_)
 replace h:=hy52 u5 hu
 refine cq 4 [4] [I (-1)] 17 ?_
 obtain rfl:=sI h
 exact rP [I (-1)]
theorem VV {G:b7}:bZ G 165 Dg:=gT 2 0 bv cf Tryz.func165 (fun a r h=>ZA a.1 a.2 r h)
def Gi:((List ae)×ae)→List V:=cA (gj str) (oA str)
def Gj (r:Bool):V×List V:=(B r,[])
noncomputable def sf :=bi [false,false] Gi Gj fun x=>se x.1 x.2
theorem Ni {s_1:List ae}{v_2:ae}{r}(h:se s_1 v_2=some r):sf.F (Gi (s_1,v_2))=some (Gj r):=aJ (aN (cn bQ) (aK bQ)) h
noncomputable def afh :=aH Tryz.f129
noncomputable def VA :=ce [(165,Dg)]
def afg (x:(List ae)×ae)(r:Bool):St→Prop:=QF VA Tryz.f129 [false,false] (Gi x) (Gj r)
theorem Zt (s_1:List ae)(v_2:ae)(r:Bool)(h:se s_1 v_2=some r):br VA Tryz.f129 [false,false] 0 (Gi (s_1,v_2)) (Gj r):=by
 show Run _ _ (afg (s_1,v_2) r) [.code afh] _
 refine rI 9 [(0,.isl false (s_1.map str)),(1,str v_2)] [] 1 ?_
 unfold se at h
 refine cq 8 [5,6] [.isl false (s_1.map str),str v_2] 49 ?_
 obtain⟨r3,hr3,h⟩:=bS h
 refine oq 65 (I r3) rfl (cP (afo hr3)) ?_
 refine cq 3 [4] [B (decide (r3≥0))] 97 ?_
 obtain rfl:=sI h
 exact rP [B (decide (r3≥0))]
theorem xX {G:b7}:bZ G 129 sf:=gT 2 0 (aO VV bv) cf Tryz.func129 (fun a r h=>Zt a.1 a.2 r h)
def LU:ae→List V:=oA str
def LV (r:Bool):V×List V:=(B r,[])
noncomputable def rV :=bi [false] LU LV fun x=>xh x
theorem H7 {s_1:ae}{r}(h:xh s_1=some r):rV.F (LU s_1)=some (LV r):=aJ (aK bQ) h
noncomputable def zJ :=aH Tryz.f81
noncomputable abbrev sv :=cL (cL (cR (cL (cR (cR zJ)))))
noncomputable abbrev H8 :=cR (cR (cR sv))
noncomputable abbrev H9 :=cR (cR (cR (cL (cL (cR (cR sv))))))
noncomputable def rp :=ce [(99,je),(130,DY),(129,sf)]
def tj (x:ae)(r:Bool):St→Prop:=QF rp Tryz.f81 [false] (LU x) (LV r)
theorem Sb (s_1:ae):cj rp 0 (tj s_1) sv 0 (yF s_1) (fun u=>(sT 46 [(0,str s_1)] [] 1)) fun x4=>(sT 46 [(0,str s_1),(20,I (len s_1)),(21,I x4)] [] 1):=ef (Ia s_1) fun {Q K} hK self ih x4 y h hr hn=>by
 unfold qb at h
 refine cq 5 [22] [B (decide (x4<(len s_1)))] 17 ?_
 refine sq h ?_ ?_<;>intro h
 ·refine aq 1 ?_
  refine cq 11 [24,25] [str s_1,I x4] 81 ?_
  obtain⟨c5,hc5,h⟩:=bS h
  refine oq 97 (.int .u8 (c5.toNat:Int)) rfl (oT rfl rfl (tx rfl rfl hc5)) ?_
  refine cq 7 [4,29] [.int .u8 (c5.toNat:Int),B (decide ((c5.toNat:Int)<97))] 161 ?_
  obtain⟨u6,hu6,h⟩:=lJ h
  have j6:Run rp 0 Q (.code H9::.blk 1::.code H8::.lp sv::.blk 0::K) (sT 46 [(0,str s_1),(20,I (len s_1)),(21,I x4),(40,B u6)] [] 1):=by
   refine sq h ?_ ?_<;>intro h
   ·refine cq 4 [2] [B false] 17 ?_
    exact b8 rfl (hr _ (an h) _ (qp [B false]))
   ·refine aq 1 ?_
    refine cq 5 [21] [I (ac (x4+1))] 33 ?_
    refine cY ?_
    exact rf [0,20,21] [] (ih _ _ h hr hn :)
  replace h:=hu6
  clear hu6
  refine sp 29 h rfl ?_ ?_<;>intro h
  ·refine cq 7 [33,36] [B true,B (decide ((c5.toNat:Int)<48))] 273 ?_
   obtain⟨u7,hu7,h⟩:=lJ h
   have j7:Run rp 0 Q (.code H9::.blk 1::.code H8::.lp sv::.blk 0::K) (sT 46 [(0,str s_1),(20,I (len s_1)),(21,I x4),(40,B u7)] [] 1):=by
    subst h
    exact rf [0,20,21,40] [] (j6 :)
   replace h:=hu7
   clear hu7
   refine sp 36 h rfl ?_ ?_<;>intro h
   ·refine cq 5 [40] [B true] 337 ?_
    subst h
    exact rf [0,20,21,40] [] (j7 :)
   ·refine cq 5 [40] [B (decide ((c5.toNat:Int)>57))] 337 ?_
    subst h
    exact rf [0,20,21,40] [] (j7 :)
  ·refine cq 4 [33] [B (decide ((c5.toNat:Int)>122))] 225 ?_
   obtain⟨u8,hu8,h⟩:=lJ h
   have j8:Run rp 0 Q (.code H9::.blk 1::.code H8::.lp sv::.blk 0::K) (sT 46 [(0,str s_1),(20,I (len s_1)),(21,I x4),(40,B u8)] [] 1):=by
    subst h
    exact rf [0,20,21,40] [] (j6 :)
   replace h:=hu8
   clear hu8
   refine sp 33 h rfl ?_ ?_<;>intro h
   ·refine cq 3 [36] [B (decide ((c5.toNat:Int)<48))] 273 ?_
    obtain⟨u9,hu9,h⟩:=lJ h
    have j9:Run rp 0 Q (.code H9::.blk 1::.code H8::.lp sv::.blk 0::K) (sT 46 [(0,str s_1),(20,I (len s_1)),(21,I x4),(40,B u9)] [] 1):=by
     subst h
     exact rf [0,20,21,40] [] (j8 :)
    replace h:=hu9
    clear hu9
    refine sp 36 h rfl ?_ ?_<;>intro h
    ·refine cq 5 [40] [B true] 337 ?_
     subst h
     exact rf [0,20,21,40] [] (j9 :)
    ·refine cq 5 [40] [B (decide ((c5.toNat:Int)>57))] 337 ?_
     subst h
     exact rf [0,20,21,40] [] (j9 :)
   ·refine cq 8 [40] [B false] 337 ?_
    subst h
    exact rf [0,20,21,40] [] (j8 :)
 ·refine aq 1 ?_
  exact rf [0] [] (hn _ (an h) :) (hk:=hK)
theorem acz (s_1:ae)(r:Bool)(h:xh s_1=some r):br rp Tryz.f81 [false] 0 (LU s_1) (LV r):=by
 show Run _ _ (tj s_1 r) [.code zJ] _
 refine rI 46 [(0,str s_1)] [] 1 ?_
 unfold xh at h
 refine cq 9 [6] [I (len s_1)] 49 ?_
 obtain⟨r2,hr2,h⟩:=bS h
 refine oq 65 (B r2) rfl (cP (jd hr2)) ?_
 refine cq 2 [9] [B (!r2)] 97 ?_
 obtain⟨y3,hy3,hy31,hy32⟩:=bJ h
 have j3:∀u3,y3=.inr u3→Run rp 0 (tj s_1 r) (.code (cR (cL (cR zJ)))::.code (cR (cR zJ))::[]) (sT 46 [(0,str s_1),(18,B u3)] [] 1):=by
  intro u3 hu
  replace h:=hy32 u3 hu
  refine sq h ?_ ?_<;>intro h
  ·refine cq 4 [2] [B false] 17 ?_
   obtain rfl:=sI h
   exact rP [B false]
  ·refine aq 1 ?_
   refine cq 8 [20,21] [I (len s_1),I (0)] 49 ?_
   obtain⟨y10,hy10,hy101,hy102⟩:=bJ h
   refine bO rfl ?_
   refine rf [0,20,21] [] (Sb s_1 rfl 0 _ hy10 (fun r' e st hq=>by rw[hy101 r' e] at hq;exact hq) fun u10 hu=>?_)
   replace h:=hy102 u10 hu
   refine aq 2 ?_
   obtain⟨r11,hr11,h⟩:=bS h
   refine oq 17 (.hs 1 0 [] 1 0 (r11.map str).length) rfl (cP (afU hr11)) ?_
   refine cq 1 [43] [str s_1] 33 ?_
   obtain⟨r12,hr12,h⟩:=bS h
   refine oq 49 (B r12) rfl (bG rfl rfl (bX rfl rfl rfl (bg (xp rfl rfl (dI (f:=str) (g:=str) (xs:=r11) rfl rfl (bP fI))) (bg (bT rfl) cX)) (Ni hr12) (.inl rfl) dF rfl rfl rfl)) ?_
   refine cq 3 [2] [B (!r12)] 81 ?_
   obtain rfl:=sI h
   exact rP [B (!r12)]
 have r3:∀r',y3=.inl r'→∀st,tj s_1 r' st→(tj s_1 r) st:=fun r' e st hq=>by rw[hy31 r' e] at hq;exact hq
 replace h:=hy3
 refine sp 9 h rfl ?_ ?_<;>intro h
 ·refine cq 10 [18] [B true] 241 ?_
  exact rf [0,18] [] (j3 _ (an h) :)
 ·refine cq 1 [10] [str s_1] 113 ?_
  obtain⟨c13,hc13,h⟩:=bS h
  refine oy 129 (.int .u8 (c13.toNat:Int)) rfl (oT rfl rfl (tx rfl rfl hc13)) ?_
  refine cq 3 [14] [B (decide ((c13.toNat:Int)<97))] 177 ?_
  obtain⟨y14,hy14,hy141,hy142⟩:=bL h
  have j14:∀u14,y14=.inr u14→Run rp 0 (tj s_1 r) (.code (cR (cL (cR zJ)))::.code (cR (cR zJ))::[]) (sT 46 [(0,str s_1),(18,B u14)] [] 1):=by
   intro u14 hu
   replace h:=hy142 u14 hu
   exact rf [0,18] [] (j3 _ (an h) :)
  have r14:∀r',y14=.inl r'→∀st,tj s_1 r' st→(tj s_1 r) st:=fun r' e st hq=>r3 r' (hy141 r' e) st hq
  replace h:=hy14
  refine sp 14 h rfl ?_ ?_<;>intro h
  ·refine cq 5 [18] [B true] 241 ?_
   exact rf [0,18] [] (j14 _ (an h) :)
  ·refine cq 1 [15] [str s_1] 193 ?_
   obtain⟨c15,hc15,h⟩:=bS h
   refine oy 209 (.int .u8 (c15.toNat:Int)) rfl (oT rfl rfl (tx rfl rfl hc15)) ?_
   refine cq 3 [18] [B (decide ((c15.toNat:Int)>122))] 241 ?_
   exact rf [0,18] [] (j14 _ (an h) :)
theorem wq {G:b7}:bZ G 81 rV:=gT 1 0 (aO ju (aO W3 (aO xX bv))) cf Tryz.func81 (fun a r h=>acz a r h)
def L0:(List ae)→List V:=oA (gj str)
def L3 (r:Bool):V×List V:=(B r,[])
noncomputable def JS :=bi [false] L0 L3 fun x=>NV x
theorem agN {ay:List ae}{r}(h:NV ay=some r):JS.F (L0 ay)=some (L3 r):=aJ (aK (cn bQ)) h
noncomputable def Ih :=aH Tryz.f98
noncomputable def L1 :=ce [(81,rV),(129,sf),(99,je)]
def Sf (x:(List ae))(r:Bool):St→Prop:=QF L1 Tryz.f98 [false] (L0 x) (L3 r)
theorem Sg (ay:List ae):cj L1 0 (Sf ay) (cL (cL (cR (cL (cR Ih))))) 0 (yG ay) (fun u=>(sT 26 [(0,.isl false (ay.map str))] [] 1)) fun x2=>(sT 26 [(0,.isl false (ay.map str)),(5,.isl false (ay.map str)),(6,I (len ay)),(7,I x2)] [] 1):=ef (Ii ay) fun {Q K} hK self ih x2 y h hr hn=>by
 unfold nL at h
 refine cq 5 [8] [B (decide (x2<(len ay)))] 17 ?_
 refine sq h ?_ ?_<;>intro h
 ·refine aq 1 ?_
  refine cq 5 [9] [I x2] 33 ?_
  obtain⟨e3,he3,h⟩:=bS h
  refine oq 49 (.iptr (str e3) 0) rfl (al rfl rfl rfl (bo rfl rfl rfl rfl he3)) ?_
  refine cq 7 [3,4,12] [I x2,str e3,str e3] 113 ?_
  obtain⟨r4,hr4,h⟩:=bS h
  refine oq 129 (B r4) rfl (cP (H7 hr4)) ?_
  refine cq 2 [15] [B (!r4)] 161 ?_
  obtain⟨y5,hy5,hy51,hy52⟩:=bL h
  have j5:∀u5,y5=.inr u5→Run L1 0 Q (.code (cR (cR (cL (cL (cR (cR (cL (cL (cR (cL (cR Ih)))))))))))::.blk 1::.code (cR (cR (cR (cL (cL (cR (cL (cR Ih))))))))::.lp (cL (cL (cR (cL (cR Ih)))))::.blk 0::K) (sT 26 [(0,.isl false (ay.map str)),(5,.isl false (ay.map str)),(6,I (len ay)),(7,I x2),(21,B u5)] [] 1):=by
   intro u5 hu
   replace h:=hy52 u5 hu
   refine sq h ?_ ?_<;>intro h
   ·refine cq 4 [2] [B false] 17 ?_
    exact b8 rfl (hr _ (an h) _ (qp [B false]))
   ·refine aq 1 ?_
    refine cq 5 [7] [I (ac (x2+1))] 33 ?_
    refine cY ?_
    exact rf [0,5,6,7] [] (ih _ _ h hr hn :)
  have r5:∀r',y5=.inl r'→∀st,Sf ay r' st→Q st:=fun r' e st hq=>hr r' (hy51 r' e) st hq
  replace h:=hy5
  refine sp 15 h rfl ?_ ?_<;>intro h
  ·refine cq 7 [21] [B true] 257 ?_
   exact rf [0,5,6,7,21] [] (j5 _ (an h) :)
  ·refine cq 2 [16,17] [.isl false (ay.map str),I x2] 193 ?_
   obtain⟨s6,hs6,h⟩:=bS h
   refine oy 209 (.isl false (s6.map str)) rfl (iD rfl rfl rfl rfl (zu rfl rfl (fun y=>(mF y).1) rfl rfl hs6)) ?_
   refine cq 1 [19] [str e3] 225 ?_
   obtain⟨r7,hr7,h⟩:=bS h
   refine oy 241 (B r7) rfl (cP (Ni hr7)) ?_
   refine cq 2 [21] [B r7] 257 ?_
   exact rf [0,5,6,7,21] [] (j5 _ (an h) :)
 ·refine aq 1 ?_
  exact rf [0] [] (hn _ (an h) :) (hk:=hK)
theorem acD (ay:List ae)(r:Bool)(h:NV ay=some r):br L1 Tryz.f98 [false] 0 (L0 ay) (L3 r):=by
 show Run _ _ (Sf ay r) [.code Ih] _
 refine rI 26 [(0,.isl false (ay.map str))] [] 1 ?_
 unfold NV at h
 refine cq 8 [5] [.isl false (ay.map str)] 33 ?_
 refine oq 49 (I (len ay)) rfl (bw rfl rfl rfl (bN rfl)) ?_
 refine cq 3 [7] [I (0)] 65 ?_
 obtain⟨y8,hy8,hy81,hy82⟩:=bJ h
 refine bO rfl ?_
 refine rf [0,5,6,7] [] (Sg ay rfl 0 _ hy8 (fun r' e st hq=>by rw[hy81 r' e] at hq;exact hq) fun u8 hu=>?_)
 replace h:=hy82 u8 hu
 refine cq 3 [23] [.isl false (ay.map str)] 17 ?_
 refine oq 33 (I (len ay)) rfl (bw rfl rfl rfl (bN rfl)) ?_
 obtain⟨r9,hr9,h⟩:=bS h
 refine oq 49 (B r9) rfl (cP (jd hr9)) ?_
 refine cq 2 [2] [B r9] 65 ?_
 obtain rfl:=sI h
 exact rP [B r9]
theorem aai {G:b7}:bZ G 98 JS:=gT 1 0 (aO wq (aO xX (aO ju bv))) cf Tryz.func98 (fun a r h=>acD a r h)
def L6:(Clause×ae)→List V:=cA au (oA (fun x:ae=>.iptr (str x) 0))
def L7 (r:Bool):V×List V:=(B r,[])
noncomputable def JU :=bi [false,false] L6 L7 fun x=>W8 x.1 x.2
theorem agQ {x_1:Clause}{a_2:ae}{r}(h:W8 x_1 a_2=some r):JU.F (L6 (x_1,a_2))=some (L7 r):=aJ (aN dV (aK (mt bQ))) h
noncomputable def agS :=aH Tryz.f175
noncomputable def abN :=ce []
def agR (x:Clause×ae)(r:Bool):St→Prop:=QF abN Tryz.f175 [false,false] (L6 x) (L7 r)
theorem acF (x_1:Clause)(a_2:ae)(r:Bool)(h:W8 x_1 a_2=some r):br abN Tryz.f175 [false,false] 0 (L6 (x_1,a_2)) (L7 r):=by
 show Run _ _ (agR (x_1,a_2) r) [.code agS] _
 refine rI 8 [(0,aB x_1),(1,.iptr (str a_2) 0)] [] 1 ?_
 unfold W8 at h
 refine cq 13 [3] [B (x_1.Id==a_2)] 113 ?_
 obtain rfl:=sI h
 exact rP [B (x_1.Id==a_2)]
theorem aak {G:b7}:bZ G 175 JU:=gT 2 0 bv cf Tryz.func175 (fun a r h=>acF a.1 a.2 r h)
def Gk:((List Clause)×ae)→List V:=cA (gj au) (oA (fun x:ae=>(.fn 175 [.iptr (str x) 0]:V)))
def Gl (r:Int):V×List V:=(I r,[])
noncomputable def C9 :=bi [false,false] Gk Gl fun x=>JC x.1 x.2
theorem afi {s_1:List Clause}{f_2:ae}{r}(h:JC s_1 f_2=some r):C9.F (Gk (s_1,f_2))=some (Gl r):=aJ (aN (cn dV) (aK (iE bQ))) h
noncomputable def VC :=aH Tryz.f110
noncomputable def Nj :=ce [(175,JU)]
def VB (x:(List Clause)×ae)(r:Int):St→Prop:=QF Nj Tryz.f110 [false,false] (Gk x) (Gl r)
theorem PO (s_1:List Clause)(f_2:ae):cj Nj 0 (VB (s_1,f_2)) (cL (cL (cR (cL (cR VC))))) 0 (uL s_1 f_2) (fun u=>(sT 19 [] [] 1)) fun x3=>(sT 19 [(0,.isl false (s_1.map au)),(1,.fn 175 [.iptr (str f_2) 0]),(7,I (len s_1)),(8,I x3)] [] 1):=ef (AN s_1 f_2) fun {Q K} hK self ih x3 y h hr hn=>by
 unfold ot at h
 refine cq 5 [9] [B (decide (x3<(len s_1)))] 17 ?_
 refine sq h ?_ ?_<;>intro h
 ·refine aq 1 ?_
  refine cq 12 [5,11,12,13] [I x3,.fn 175 [.iptr (str f_2) 0],.isl false (s_1.map au),I x3] 97 ?_
  obtain⟨e4,he4,h⟩:=bS h
  refine oq 113 (.iptr (aB e4) 0) rfl (al rfl rfl rfl (bo rfl rfl rfl rfl he4)) ?_
  refine cq 1 [15] [aB e4] 129 ?_
  obtain⟨r5,hr5,h⟩:=bS h
  refine oq 145 (B r5) rfl (cP (agQ hr5)) ?_
  refine aq 1 ?_
  refine sq h ?_ ?_<;>intro h
  ·refine cq 5 [4] [I x3] 177 ?_
   exact b8 rfl (hr _ (an h) _ (qp [I x3]))
  ·refine aq 1 ?_
   refine cq 5 [8] [I (ac (x3+1))] 177 ?_
   refine cY ?_
   exact rf [0,1,7,8] [] (ih _ _ h hr hn :)
 ·refine aq 1 ?_
  exact rf [] [] (hn _ (an h) :) (hk:=hK)
theorem Zu (s_1:List Clause)(f_2:ae)(r:Int)(h:JC s_1 f_2=some r):br Nj Tryz.f110 [false,false] 0 (Gk (s_1,f_2)) (Gl r):=by
 show Run _ _ (VB (s_1,f_2) r) [.code VC] _
 refine rI 19 [(0,.isl false (s_1.map au)),(1,.fn 175 [.iptr (str f_2) 0])] [] 1 ?_
 unfold JC at h
 refine cq 8 [6] [.isl false (s_1.map au)] 33 ?_
 refine oq 49 (I (len s_1)) rfl (bw rfl rfl rfl (bN rfl)) ?_
 refine cq 3 [8] [I (0)] 65 ?_
 obtain⟨y6,hy6,hy61,hy62⟩:=bJ h
 refine bO rfl ?_
 refine rf [0,1,7,8] [] (PO s_1 f_2 rfl 0 _ hy6 (fun r' e st hq=>by rw[hy61 r' e] at hq;exact hq) fun u6 hu=>?_)
 replace h:=hy62 u6 hu
 refine cq 4 [4] [I (-1)] 17 ?_
 obtain rfl:=sI h
 exact rP [I (-1)]
theorem VD {G:b7}:bZ G 110 C9:=gT 2 0 (aO aak bv) cf Tryz.func110 (fun a r h=>Zu a.1 a.2 r h)
def L4:(Contract×ae)→List V:=cA aP (oA str)
def L5 (r:Int):V×List V:=(I r,[])
noncomputable def JT :=bi [false,false] L4 L5 fun x=>Ij x.1 x.2
theorem abM {c_1:Contract}{fD:ae}{r}(h:Ij c_1 fD=some r):JT.F (L4 (c_1,fD))=some (L5 r):=aJ (aN bb (aK bQ)) h
noncomputable def agP :=aH Tryz.f140
noncomputable def abL :=ce [(110,C9)]
def agO (x:Contract×ae)(r:Int):St→Prop:=QF abL Tryz.f140 [false,false] (L4 x) (L5 r)
theorem acE (c_1:Contract)(fD:ae)(r:Int)(h:Ij c_1 fD=some r):br abL Tryz.f140 [false,false] 0 (L4 (c_1,fD)) (L5 r):=by
 show Run _ _ (agO (c_1,fD) r) [.code agP] _
 refine rI 9 [(0,aa c_1),(1,str fD)] [] 1 ?_
 unfold Ij at h
 refine ck 11 [6,7] [] [17] [] [.isl false (c_1.Clauses.map au),.fn 175 [.hp 17 0 [] 1 0 0]] [some ⟨0,1,[str fD]⟩] 97 (by kernel_rfl) ?_
 obtain⟨r3,hr3,h⟩:=bS h
 refine oq 113 (I r3) rfl (bG rfl rfl (bX rfl rfl rfl (bg (bT rfl) (bg (nk (dD (rc (path:=[]) rfl rfl aE rfl rfl) gK)) cX)) (afi hr3) (.inl rfl) dF rfl rfl rfl)) ?_
 refine cq 2 [4] [I r3] 129 ?_
 obtain rfl:=sI h
 exact rP [I r3]
theorem aaj {G:b7}:bZ G 140 JT:=gT 2 0 (aO VD bv) cf Tryz.func140 (fun a r h=>acE a.1 a.2 r h)
def Mn:Int→List V:=oA I
def Mo (r:Bool):V×List V:=(B r,[])
noncomputable def vr :=bi [false] Mn Mo fun x=>pM x
theorem wt {ip:Int}{r}(h:pM ip=some r):vr.F (Mn ip)=some (Mo r):=aJ (aK bc) h
noncomputable def ag7 :=aH Tryz.f78
noncomputable def abX :=ce [(99,je)]
def ag6 (x:Int)(r:Bool):St→Prop:=QF abX Tryz.f78 [false] (Mn x) (Mo r)
theorem acP (ip:Int)(r:Bool)(h:pM ip=some r):br abX Tryz.f78 [false] 0 (Mn ip) (Mo r):=by
 show Run _ _ (ag6 ip r) [.code ag7] _
 refine rI 5 [(0,I ip)] [] 1 ?_
 unfold pM at h
 refine cq 7 [3] [I ip] 33 ?_
 obtain⟨r2,hr2,h⟩:=bS h
 refine oq 49 (B r2) rfl (cP (jd hr2)) ?_
 refine cq 2 [2] [B r2] 65 ?_
 obtain rfl:=sI h
 exact rP [B r2]
theorem D3 {G:b7}:bZ G 78 vr:=gT 1 0 (aO ju bv) cf Tryz.func78 (fun a r h=>acP a r h)
def Ik:(Condition×Int)→List V:=cA bK (oA I)
def Il (r:Int):V×List V:=(I r,[])
noncomputable def D2 (bp:(Condition×Int)→Option Int):Ent:=bi [false,false] Ik Il bp
theorem Xa (bp:(Condition×Int)→Option Int){x}{r}(h:bp x=some r):(D2 bp).F (Ik x)=some (Il r):=aJ (aN dP (aK bc)) h
noncomputable def JV :=D2 (aL nz)
theorem agT {c_1:Condition}{cV:Int}{r}(h:W9 c_1 cV=some r):JV.F (Ik (c_1,cV))=some (Il r):=Xa (aL nz) h
noncomputable def wr :=aH Tryz.f176
noncomputable abbrev qK :=cR (cR (cR (cR (cR wr))))
noncomputable abbrev sw :=cR (cL (cR (cR (cR (cR wr)))))
noncomputable def ny (bp:(Condition×Int)→Option Int):Env:=ce [(176,(D2 bp)),(81,rV),(78,vr),(99,je)]
def fN (bp:(Condition×Int)→Option Int)(x:Condition×Int)(r:Int):St→Prop:=QF (ny bp) Tryz.f176 [false,false] (Ik x) (Il r)
theorem Sh (bp:(Condition×Int)→Option Int)(c_1:Condition)(cV:Int):cj (ny bp) 0 (fN bp (c_1,cV)) (cL (cL (cR (cL qK)))) 0 (nm bp c_1 cV) (fun u=>(sT 78 [(1,I u)] [] 1)) fun x5=>(sT 78 [(1,I x5.1),(65,.isl false (c_1.Parts.map aI)),(66,I (len c_1.Parts)),(67,I x5.2)] [] 1):=ef (Im bp c_1 cV) fun {Q K} hK self ih x5 y h hr hn=>by
 unfold mj at h
 refine cq 5 [68] [B (decide (x5.2<(len c_1.Parts)))] 17 ?_
 refine sq h ?_ ?_<;>intro h
 ·refine aq 1 ?_
  refine aq 4 ?_
  obtain⟨e6,he6,h⟩:=bS h
  refine oq 33 (.iptr (ar e6) 0) rfl (al rfl rfl rfl (bo rfl rfl (dK e6) rfl he6)) ?_
  refine ck 2 [7,70] [] [49] [] [.hp 49 0 [] 4 0 0,ar e6] [some ⟨0,4,[.agg [I (0),str ([]),I (0),.isl true []]]⟩] 65 (by kernel_rfl) ?_
  refine gm 49 [.agg [I (0),str ([]),I (0),.usl 4 (([]).map aj)]] rfl rfl (aR (iu (aR (.refl _) (aR (.refl _) (aR (.refl _) (aR (.nil _) fi))))) fi) ?_
  refine ck 6 [71,72] [] [49] [] [ar e6,I x5.1] [some ⟨2,4,[ar e6]⟩] 113 (by kernel_rfl) ?_
  obtain⟨r7,hr7,h⟩:=bS h
  refine oq 129 (I r7) rfl (bG rfl rfl (bX rfl rfl rfl (bg (bT rfl) (bg (bT rfl) cX)) (Xa bp hr7) (.inr rfl) dF rfl rfl rfl)) ?_
  refine cq 7 [1,75] [I r7,B (decide (r7<0))] 177 ?_
  refine sq h ?_ ?_<;>intro h
  ·refine cq 4 [4] [I (-1)] 193 ?_
   exact b8 rfl (hr _ (an h) _ (qp [I (-1)]))
  ·refine aq 1 ?_
   refine cq 5 [67] [I (ac (x5.2+1))] 209 ?_
   refine cY ?_
   exact rf [1,65,66,67] [] (ih _ _ h hr hn :)
 ·refine aq 1 ?_
  exact rf [1] [] (hn _ (an h) :) (hk:=hK)
theorem acH (bp:(Condition×Int)→Option Int)(c_1:Condition)(cV:Int)(r:Int)(h:zL bp c_1 cV=some r):br (ny bp) Tryz.f176 [false,false] 0 (Ik (c_1,cV)) (Il r):=by
 show Run _ _ (fN bp (c_1,cV) r) [.code wr] _
 refine rI 78 [(0,ar c_1),(1,I cV)] [] 1 ?_
 unfold zL at h
 refine ck 13 [1,2] [] [1] [] [I (ac (cV+1)),.hp 1 0 [] 4 0 0] [some ⟨0,4,[ar c_1]⟩] 81 (by kernel_rfl) ?_
 refine oq 97 (.hs 81 0 [] 1 0 7) rfl (eM rfl (kI (f:=I) (xs:=[]) (z:=I (0)) (es:=[I (-1),I (0),I (0),I (0),I (1),I (2),I (2)]) (ws:=[I (-1),I (0),I (0),I (0),I (1),I (2),I (2)]) rfl rfl rfl (by decide) rfl (dY rfl) rfl)) ?_
 refine cq 4 [5] [.hs 81 0 [] 1 0 7] 113 ?_
 refine eb [0,1,3,7,15,31,63,127,255,511,1023,2047,511,511,8703,29183,61951,131071,262143] rfl (by decide +kernel) ?_
 refine dk 3 [13,12,11] [B (decide ((ac (cV+1))>15)),B (decide ((ac (cV+1))>15)),I (ac (cV+1))] ?_
 obtain⟨y3,hy3,hy31,hy32⟩:=bJ h
 have j3:∀u3,y3=.inr u3→Run (ny bp) 0 (fN bp (c_1,cV) r) (.code (cR (cL (cR (cR (cR wr)))))::.code (cR (cR (cR (cR wr))))::[]) (sT 78 [(1,I (ac (cV+1))),(2,.hp 1 0 [] 4 0 0),(29,B u3)] [⟨0,4,[ar c_1]⟩] 2):=by
  intro u3 hu
  replace h:=hy32 u3 hu
  refine sq h ?_ ?_<;>intro h
  ·refine cq 4 [4] [I (-1)] 18 ?_
   obtain rfl:=sI h
   exact rP [I (-1)]
  ·refine aq 1 ?_
   refine cq 11 [37] [B (!((c_1.Op==2)==(!(c_1.Name==([]:ae)))))] 130 ?_
   obtain⟨y4,hy4,hy41,hy42⟩:=bJ h
   have j4:∀u4,y4=.inr u4→Run (ny bp) 0 (fN bp (c_1,cV) r) (.code sw::.code qK::[]) (sT 78 [(1,I (ac (cV+1))),(2,.hp 1 0 [] 4 0 0),(63,B u4)] [⟨0,4,[ar c_1]⟩] 2):=by
    intro u4 hu
    replace h:=hy42 u4 hu
    refine sq h ?_ ?_<;>intro h
    ·refine cq 4 [4] [I (-1)] 18 ?_
     obtain rfl:=sI h
     exact rP [I (-1)]
    ·refine aq 1 ?_
     refine cq 5 [65] [.isl false (c_1.Parts.map aI)] 34 ?_
     refine oq 50 (I (len c_1.Parts)) rfl (bw rfl rfl rfl (bN rfl)) ?_
     refine cq 3 [67] [I (0)] 66 ?_
     obtain⟨y8,hy8,hy81,hy82⟩:=bJ h
     refine bO rfl ?_
     refine rf [1,65,66,67] [] (Sh bp c_1 cV rfl ((ac (cV+1)),0) _ hy8 (fun r' e st hq=>by rw[hy81 r' e] at hq;exact hq) fun u8 hu=>?_)
     replace h:=hy82 u8 hu
     refine cq 5 [4] [I u8] 33 ?_
     obtain rfl:=sI h
     exact rP [I u8]
   have r4:∀r',y4=.inl r'→∀st,fN bp (c_1,cV) r' st→(fN bp (c_1,cV) r) st:=fun r' e st hq=>by rw[hy41 r' e] at hq;exact hq
   replace h:=hy4
   refine sp 37 h rfl ?_ ?_<;>intro h
   ·refine cq 27 [63] [B true] 546 ?_
    exact rf [1,2,63] [1] (j4 _ (an h) :)
   ·refine cq 4 [41] [B (c_1.Op==2)] 194 ?_
    obtain⟨y9,hy9,hy91,hy92⟩:=bL h
    have j9:∀u9,y9=.inr u9→Run (ny bp) 0 (fN bp (c_1,cV) r) (.code sw::.code qK::[]) (sT 78 [(1,I (ac (cV+1))),(2,.hp 1 0 [] 4 0 0),(63,B u9)] [⟨0,4,[ar c_1]⟩] 2):=by
     intro u9 hu
     replace h:=hy92 u9 hu
     exact rf [1,2,63] [1] (j4 _ (an h) :)
    have r9:∀r',y9=.inl r'→∀st,fN bp (c_1,cV) r' st→(fN bp (c_1,cV) r) st:=fun r' e st hq=>r4 r' (hy91 r' e) st hq
    replace h:=hy9
    refine sp 41 h rfl ?_ ?_<;>intro h
    ·refine cq 2 [43] [str c_1.Name] 226 ?_
     obtain⟨r10,hr10,h⟩:=bS h
     refine oy 242 (B r10) rfl (cP (H7 hr10)) ?_
     refine cq 4 [48] [B (!r10)] 306 ?_
     obtain⟨y11,hy11,hy111,hy112⟩:=bL h
     have j11:∀u11,y11=.inr u11→Run (ny bp) 0 (fN bp (c_1,cV) r) (.code sw::.code qK::[]) (sT 78 [(1,I (ac (cV+1))),(2,.hp 1 0 [] 4 0 0),(63,B u11)] [⟨0,4,[ar c_1]⟩] 2):=by
      intro u11 hu
      replace h:=hy112 u11 hu
      exact rf [1,2,63] [1] (j9 _ (an h) :)
     have r11:∀r',y11=.inl r'→∀st,fN bp (c_1,cV) r' st→(fN bp (c_1,cV) r) st:=fun r' e st hq=>r9 r' (hy111 r' e) st hq
     replace h:=hy11
     refine sp 48 h rfl ?_ ?_<;>intro h
     ·refine cq 16 [63] [B true] 546 ?_
      exact rf [1,2,63] [1] (j11 _ (an h) :)
     ·refine cq 4 [52] [B (c_1.Op != 3)] 370 ?_
      obtain⟨y12,hy12,hy121,hy122⟩:=bL h
      have j12:∀u12,y12=.inr u12→Run (ny bp) 0 (fN bp (c_1,cV) r) (.code sw::.code qK::[]) (sT 78 [(1,I (ac (cV+1))),(2,.hp 1 0 [] 4 0 0),(63,B u12)] [⟨0,4,[ar c_1]⟩] 2):=by
       intro u12 hu
       replace h:=hy122 u12 hu
       exact rf [1,2,63] [1] (j11 _ (an h) :)
      have r12:∀r',y12=.inl r'→∀st,fN bp (c_1,cV) r' st→(fN bp (c_1,cV) r) st:=fun r' e st hq=>r11 r' (hy121 r' e) st hq
      replace h:=hy12
      refine sp 52 h rfl ?_ ?_<;>intro h
      ·refine cq 6 [58] [B (c_1.Day != 0)] 466 ?_
       obtain⟨y13,hy13,hy131,hy132⟩:=bL h
       have j13:∀u13,y13=.inr u13→Run (ny bp) 0 (fN bp (c_1,cV) r) (.code sw::.code qK::[]) (sT 78 [(1,I (ac (cV+1))),(2,.hp 1 0 [] 4 0 0),(63,B u13)] [⟨0,4,[ar c_1]⟩] 2):=by
        intro u13 hu
        replace h:=hy132 u13 hu
        exact rf [1,2,63] [1] (j12 _ (an h) :)
       have r13:∀r',y13=.inl r'→∀st,fN bp (c_1,cV) r' st→(fN bp (c_1,cV) r) st:=fun r' e st hq=>r12 r' (hy131 r' e) st hq
       replace h:=hy13
       refine sp 58 h rfl ?_ ?_<;>intro h
       ·refine cq 6 [63] [B true] 546 ?_
        exact rf [1,2,63] [1] (j13 _ (an h) :)
       ·refine cq 2 [60] [I c_1.Day] 498 ?_
        obtain⟨r14,hr14,h⟩:=bS h
        refine oy 514 (B r14) rfl (cP (wt hr14)) ?_
        refine cq 3 [63] [B (!r14)] 546 ?_
        exact rf [1,2,63] [1] (j13 _ (an h) :)
      ·refine cq 8 [58,60] [B false,I c_1.Day] 498 ?_
       obtain⟨r15,hr15,h⟩:=bS h
       refine oy 514 (B r15) rfl (cP (wt hr15)) ?_
       refine cq 3 [63] [B (!r15)] 546 ?_
       exact rf [1,2,63] [1] (j12 _ (an h) :)
    ·refine cq 11 [48,52] [B false,B (c_1.Op != 3)] 370 ?_
     obtain⟨y16,hy16,hy161,hy162⟩:=bL h
     have j16:∀u16,y16=.inr u16→Run (ny bp) 0 (fN bp (c_1,cV) r) (.code sw::.code qK::[]) (sT 78 [(1,I (ac (cV+1))),(2,.hp 1 0 [] 4 0 0),(63,B u16)] [⟨0,4,[ar c_1]⟩] 2):=by
      intro u16 hu
      replace h:=hy162 u16 hu
      exact rf [1,2,63] [1] (j9 _ (an h) :)
     have r16:∀r',y16=.inl r'→∀st,fN bp (c_1,cV) r' st→(fN bp (c_1,cV) r) st:=fun r' e st hq=>r9 r' (hy161 r' e) st hq
     replace h:=hy16
     refine sp 52 h rfl ?_ ?_<;>intro h
     ·refine cq 6 [58] [B (c_1.Day != 0)] 466 ?_
      obtain⟨y17,hy17,hy171,hy172⟩:=bL h
      have j17:∀u17,y17=.inr u17→Run (ny bp) 0 (fN bp (c_1,cV) r) (.code sw::.code qK::[]) (sT 78 [(1,I (ac (cV+1))),(2,.hp 1 0 [] 4 0 0),(63,B u17)] [⟨0,4,[ar c_1]⟩] 2):=by
       intro u17 hu
       replace h:=hy172 u17 hu
       exact rf [1,2,63] [1] (j16 _ (an h) :)
      have r17:∀r',y17=.inl r'→∀st,fN bp (c_1,cV) r' st→(fN bp (c_1,cV) r) st:=fun r' e st hq=>r16 r' (hy171 r' e) st hq
      replace h:=hy17
      refine sp 58 h rfl ?_ ?_<;>intro h
      ·refine cq 6 [63] [B true] 546 ?_
       exact rf [1,2,63] [1] (j17 _ (an h) :)
      ·refine cq 2 [60] [I c_1.Day] 498 ?_
       obtain⟨r18,hr18,h⟩:=bS h
       refine oy 514 (B r18) rfl (cP (wt hr18)) ?_
       refine cq 3 [63] [B (!r18)] 546 ?_
       exact rf [1,2,63] [1] (j17 _ (an h) :)
     ·refine cq 8 [58,60] [B false,I c_1.Day] 498 ?_
      obtain⟨r19,hr19,h⟩:=bS h
      refine oy 514 (B r19) rfl (cP (wt hr19)) ?_
      refine cq 3 [63] [B (!r19)] 546 ?_
      exact rf [1,2,63] [1] (j16 _ (an h) :)
 have r3:∀r',y3=.inl r'→∀st,fN bp (c_1,cV) r' st→(fN bp (c_1,cV) r) st:=fun r' e st hq=>by rw[hy31 r' e] at hq;exact hq
 replace h:=hy3
 refine sp 13 h rfl ?_ ?_<;>intro h
 ·refine dk 16 [29,28,27,26,25,24,23,22,21,20,19,18,17,16,15,14] [B true,.und,.und,.und,.und,.und,.und,.und,.und,.und,B true,B true,.und,.und,.und,.und] ?_
  refine de 417 rfl rfl ?_
  exact rf [1,2,29] [1] (j3 _ (an h) :)
 ·refine dy [1] [] (.hp 1 0 [] 4 0 0) rfl (az rfl rfl rfl) ?_
  refine dy [1] [] (I c_1.Op) rfl (aX rfl rfl) ?_
  obtain⟨r20,hr20,h⟩:=bS h
  refine dy [] [] (B r20) rfl (cP (jd hr20)) ?_ (d3 rfl rfl rfl rfl (bg (bT rfl) (bg (bT rfl) (bg (bT rfl) cX))) (jd hr20) (.inr rfl) rfl)
  refine dk 3 [19,18,17] [B (!r20),B (!r20),B (!r20)] ?_
  obtain⟨y21,hy21,hy211,hy212⟩:=bL h
  have j21:∀u21,y21=.inr u21→Run (ny bp) 0 (fN bp (c_1,cV) r) (.code (cR (cL (cR (cR (cR wr)))))::.code (cR (cR (cR (cR wr))))::[]) (sT 78 [(1,I (ac (cV+1))),(2,.hp 1 0 [] 4 0 0),(29,B u21)] [⟨0,4,[ar c_1]⟩] 2):=by
   intro u21 hu
   replace h:=hy212 u21 hu
   exact rf [1,2,29] [1] (j3 _ (an h) :)
  have r21:∀r',y21=.inl r'→∀st,fN bp (c_1,cV) r' st→(fN bp (c_1,cV) r) st:=fun r' e st hq=>r3 r' (hy211 r' e) st hq
  replace h:=hy21
  refine sp 19 h rfl ?_ ?_<;>intro h
  ·refine dk 10 [29,28,27,26,25,24,23,22,21,20] [B true,.und,.und,.und,.und,.und,.und,.und,.und,.und] ?_
   refine de 417 rfl rfl ?_
   exact rf [1,2,29] [1] (j21 _ (an h) :)
  ·refine dy [1] [] (.hp 1 0 [] 4 0 3) rfl (az rfl rfl rfl) ?_
   refine dy [1] [] (.isl false (c_1.Parts.map aI)) rfl (aX rfl rfl) ?_
   refine dy [] [] (I (len c_1.Parts)) rfl (bw rfl rfl rfl (bN rfl)) ?_
   refine dk 1 [23] [.hs 81 0 [] 1 0 7] ?_
   refine dy [1] [] (.hp 1 0 [] 4 0 0) rfl (az rfl rfl rfl) ?_
   refine dy [1] [] (I c_1.Op) rfl (aX rfl rfl) ?_
   obtain⟨e22,he22,h⟩:=bS h
   refine dy [81] [] (.hp 81 0 [] 1 (0+Int.toNat c_1.Op) 0) rfl (al rfl rfl rfl (cp (f:=I) (xs:=[(-1),0,0,0,1,2,2]) rfl rfl rfl he22)) ?_
   refine dy [81] [] (I e22) rfl (aX rfl (gk (path:=[]) rfl rfl rfl aE (bU (f:=I) (xs:=[(-1),0,0,0,1,2,2]) he22) rfl rfl rfl)) ?_
   refine dk 2 [29,28] [B ((len c_1.Parts) != e22),B ((len c_1.Parts) != e22)] ?_
   refine de 417 rfl rfl ?_
   exact rf [1,2,29] [1] (j21 _ (an h) :)
theorem aal {G:b7}:bZ G 176 JV:=jM fun bp g_Ffl=>gT 2 0 (aO g_Ffl (aO wq (aO D3 (aO ju bv)))) cf Tryz.func176 (fun a r h=>acH bp a.1 a.2 r h)
def LO:Condition→List V:=oA bK
def LP (r:Bool):V×List V:=(B r,[])
noncomputable def Jx :=bi [false] LO LP fun x=>Nh x
theorem agI {c_1:Condition}{r}(h:Nh c_1=some r):Jx.F (LO c_1)=some (LP r):=aJ (aK dP) h
noncomputable def agK :=aH Tryz.f141
noncomputable def abI :=ce [(176,JV)]
def agJ (x:Condition)(r:Bool):St→Prop:=QF abI Tryz.f141 [false] (LO x) (LP r)
theorem aco (c_1:Condition)(r:Bool)(h:Nh c_1=some r):br abI Tryz.f141 [false] 0 (LO c_1) (LP r):=by
 show Run _ _ (agJ c_1 r) [.code agK] _
 refine rI 6 [(0,ar c_1)] [] 1 ?_
 unfold Nh at h
 refine cq 8 [3] [ar c_1] 49 ?_
 obtain⟨r2,hr2,h⟩:=bS h
 refine oq 65 (I r2) rfl (cP (agT hr2)) ?_
 refine cq 3 [2] [B (decide (r2>0))] 97 ?_
 obtain rfl:=sI h
 exact rP [B (decide (r2>0))]
theorem Zo {G:b7}:bZ G 141 Jx:=gT 1 0 (aO aal bv) cf Tryz.func141 (fun a r h=>aco a r h)
def Ml:(Contract×Int)→List V:=cA aP (oA I)
def Mm (r:Bool):V×List V:=(B r,[])
noncomputable def J0 :=bi [false,false] Ml Mm fun x=>NZ x.1 x.2
theorem ag5 {c_1:Contract}{i_2:Int}{r}(h:NZ c_1 i_2=some r):J0.F (Ml (c_1,i_2))=some (Mm r):=aJ (aN bb (aK bc)) h
noncomputable def mP :=aH Tryz.f100
noncomputable abbrev N0 :=cR (cL (cR (cR (cR (cR mP)))))
noncomputable abbrev yI :=cR (cR (cR (cR (cR (cR mP)))))
noncomputable abbrev Ir :=cR (cL (cR (cR (cR (cR (cR mP))))))
noncomputable abbrev N1 :=cR (cR (cR yI))
noncomputable def kG :=ce [(81,rV),(99,je),(140,JT),(141,Jx)]
def eZ (x:Contract×Int)(r:Bool):St→Prop:=QF kG Tryz.f100 [false,false] (Ml x) (Mm r)
theorem acO (c_1:Contract)(i_2:Int)(r:Bool)(h:NZ c_1 i_2=some r):br kG Tryz.f100 [false,false] 0 (Ml (c_1,i_2)) (Mm r):=by
 show Run _ _ (eZ (c_1,i_2) r) [.code mP] _
 refine rI 119 [(0,aa c_1),(1,I i_2)] [] 1 ?_
 unfold NZ at h
 refine ck 10 [2,9,10] [] [1] [] [.hp 1 0 [] 2 0 0,.isl false (c_1.Clauses.map au),I i_2] [some ⟨0,2,[aa c_1]⟩] 81 (by kernel_rfl) ?_
 obtain⟨e3,he3,h⟩:=bS h
 refine oq 97 (.iptr (aB e3) 0) rfl (al rfl rfl rfl (bo rfl rfl rfl rfl he3)) ?_
 refine ck 2 [5,12] [] [113] [] [.hp 113 0 [] 12 0 0,aB e3] [some ⟨0,12,[.agg [str ([]),I (0),I (0),str ([]),I (0),I (0),I (0),str ([]),I (0),.isl true [],I (0),str ([])]]⟩] 129 (by kernel_rfl) ?_
 refine gm 113 [.agg [str ([]),I (0),I (0),str ([]),I (0),I (0),I (0),str ([]),I (0),.usl 4 (([]).map aj),I (0),str ([])]] rfl rfl (aR (iu (aR (.refl _) (aR (.refl _) (aR (.refl _) (aR (.refl _) (aR (.refl _) (aR (.refl _) (aR (.refl _) (aR (.refl _) (aR (.refl _) (aR (.nil _) (aR (.refl _) (aR (.refl _) fi))))))))))))) fi) ?_
 refine ck 6 [14] [] [113] [] [.isl false (c_1.Parties.map str)] [some ⟨2,12,[aB e3]⟩] 177 (by kernel_rfl) ?_
 refine oq 193 (I (len c_1.Parties)) rfl (bw rfl rfl rfl (bN rfl)) ?_
 refine cq 8 [6,18] [I (ac ((len c_1.Parties) - 1)),str e3.Id] 257 ?_
 obtain⟨r4,hr4,h⟩:=bS h
 refine oq 273 (B r4) rfl (cP (H7 hr4)) ?_
 refine cq 2 [21] [B (!r4)] 305 ?_
 obtain⟨y5,hy5,hy51,hy52⟩:=bJ h
 have j5:∀u5,y5=.inr u5→Run kG 0 (eZ (c_1,i_2) r) (.code (cR (cL (cR (cR (cR mP)))))::.code (cR (cR (cR (cR mP))))::[]) (sT 119 [(1,I i_2),(2,.hp 1 0 [] 2 0 0),(5,.hp 2 0 [] 12 0 0),(6,I (ac ((len c_1.Parties) - 1))),(40,B u5)] [⟨0,2,[aa c_1]⟩,⟨0,12,[aB e3]⟩] 3):=by
  intro u5 hu
  replace h:=hy52 u5 hu
  refine sq h ?_ ?_<;>intro h
  ·refine cq 4 [4] [B false] 19 ?_
   obtain rfl:=sI h
   exact rP [B false]
  ·refine aq 1 ?_
   refine cq 6 [42,43] [I e3.Party,I (ac ((len c_1.Parties) - 1))] 51 ?_
   obtain⟨r6,hr6,h⟩:=bS h
   refine oq 67 (B r6) rfl (cP (jd hr6)) ?_
   refine cq 2 [46] [B (!r6)] 99 ?_
   obtain⟨y7,hy7,hy71,hy72⟩:=bJ h
   have j7:∀u7,y7=.inr u7→Run kG 0 (eZ (c_1,i_2) r) (.code N0::.code (cR (cR (cR (cR (cR mP)))))::[]) (sT 119 [(1,I i_2),(2,.hp 1 0 [] 2 0 0),(5,.hp 2 0 [] 12 0 0),(65,B u7)] [⟨0,2,[aa c_1]⟩,⟨0,12,[aB e3]⟩] 3):=by
    intro u7 hu
    replace h:=hy72 u7 hu
    refine sq h ?_ ?_<;>intro h
    ·refine cq 4 [4] [B false] 19 ?_
     obtain rfl:=sI h
     exact rP [B false]
    ·refine aq 1 ?_
     refine cq 5 [67] [I e3.Amount] 35 ?_
     obtain⟨r8,hr8,h⟩:=bS h
     refine oq 51 (B r8) rfl (cP (jd hr8)) ?_
     refine cq 2 [70] [B (!r8)] 83 ?_
     obtain⟨y9,hy9,hy91,hy92⟩:=bJ h
     have j9:∀u9,y9=.inr u9→Run kG 0 (eZ (c_1,i_2) r) (.code Ir::.code yI::[]) (sT 119 [(1,I i_2),(2,.hp 1 0 [] 2 0 0),(5,.hp 2 0 [] 12 0 0),(90,B u9)] [⟨0,2,[aa c_1]⟩,⟨0,12,[aB e3]⟩] 3):=by
      intro u9 hu
      replace h:=hy92 u9 hu
      refine sq h ?_ ?_<;>intro h
      ·refine cq 4 [4] [B false] 19 ?_
       obtain rfl:=sI h
       exact rP [B false]
      ·refine aq 1 ?_
       refine cq 7 [93] [B (e3.Repair==([]:ae))] 51 ?_
       refine sq h ?_ ?_<;>intro h
       ·refine cq 4 [4] [B true] 67 ?_
        obtain rfl:=sI h
        exact rP [B true]
       ·refine aq 1 ?_
        refine cq 5 [94,96] [aa c_1,str e3.Repair] 99 ?_
        obtain⟨r10,hr10,h⟩:=bS h
        refine oq 115 (I r10) rfl (cP (abM hr10)) ?_
        refine cq 8 [7,101] [I r10,B (e3.Kind != 3)] 195 ?_
        obtain⟨y11,hy11,hy111,hy112⟩:=bJ h
        have j11:∀u11,y11=.inr u11→Run kG 0 (eZ (c_1,i_2) r) (.code N1::[]) (sT 119 [(4,B u11)] [] 1):=by
         intro u11 hu
         replace h:=hy112 u11 hu
         obtain rfl:=sI h
         exact rP [B u11]
        have r11:∀r',y11=.inl r'→∀st,eZ (c_1,i_2) r' st→(eZ (c_1,i_2) r) st:=fun r' e st hq=>by rw[hy111 r' e] at hq;exact hq
        replace h:=hy11
        refine sp 101 h rfl ?_ ?_<;>intro h
        ·refine cq 4 [105] [B (decide (r10≥0))] 259 ?_
         obtain⟨y12,hy12,hy121,hy122⟩:=bL h
         have j12:∀u12,y12=.inr u12→Run kG 0 (eZ (c_1,i_2) r) (.code N1::[]) (sT 119 [(4,B u12)] [] 1):=by
          intro u12 hu
          replace h:=hy122 u12 hu
          exact rf [4] [] (j11 _ (an h) :)
         have r12:∀r',y12=.inl r'→∀st,eZ (c_1,i_2) r' st→(eZ (c_1,i_2) r) st:=fun r' e st hq=>r11 r' (hy121 r' e) st hq
         replace h:=hy12
         refine sp 105 h rfl ?_ ?_<;>intro h
         ·refine cq 5 [110] [B (r10 != i_2)] 339 ?_
          obtain⟨y13,hy13,hy131,hy132⟩:=bL h
          have j13:∀u13,y13=.inr u13→Run kG 0 (eZ (c_1,i_2) r) (.code N1::[]) (sT 119 [(4,B u13)] [] 1):=by
           intro u13 hu
           replace h:=hy132 u13 hu
           exact rf [4] [] (j12 _ (an h) :)
          have r13:∀r',y13=.inl r'→∀st,eZ (c_1,i_2) r' st→(eZ (c_1,i_2) r) st:=fun r' e st hq=>r12 r' (hy131 r' e) st hq
          replace h:=hy13
          refine sp 110 h rfl ?_ ?_<;>intro h
          ·refine cq 3 [112,113] [.isl false (c_1.Clauses.map au),I r10] 387 ?_
           obtain⟨e14,he14,h⟩:=bS h
           refine oy 403 (.iptr (aB e14) 0) rfl (al rfl rfl rfl (bo rfl rfl rfl rfl he14)) ?_
           refine cq 6 [4] [B (e14.Kind==1)] 483 ?_
           exact rf [4] [] (j13 _ (an h) :)
          ·refine cq 10 [4] [B false] 483 ?_
           exact rf [4] [] (j13 _ (an h) :)
         ·refine cq 15 [4] [B false] 483 ?_
          exact rf [4] [] (j12 _ (an h) :)
        ·refine cq 19 [4] [B false] 483 ?_
         exact rf [4] [] (j11 _ (an h) :)
     have r9:∀r',y9=.inl r'→∀st,eZ (c_1,i_2) r' st→(eZ (c_1,i_2) r) st:=fun r' e st hq=>by rw[hy91 r' e] at hq;exact hq
     replace h:=hy9
     refine sp 70 h rfl ?_ ?_<;>intro h
     ·refine cq 21 [90] [B true] 403 ?_
      exact rf [1,2,5,90] [1,2] (j9 _ (an h) :)
     ·refine cq 2 [72] [I e3.Within] 115 ?_
      obtain⟨r15,hr15,h⟩:=bS h
      refine oy 131 (B r15) rfl (cP (jd hr15)) ?_
      refine cq 3 [76] [B (!r15)] 179 ?_
      obtain⟨u16,hu16,h⟩:=lJ h
      have j16:Run kG 0 (eZ (c_1,i_2) r) (.code Ir::.code yI::[]) (sT 119 [(1,I i_2),(2,.hp 1 0 [] 2 0 0),(5,.hp 2 0 [] 12 0 0),(90,B u16)] [⟨0,2,[aa c_1]⟩,⟨0,12,[aB e3]⟩] 3):=by
       exact rf [1,2,5,90] [1,2] (j9 _ (an h) :)
      replace h:=hu16
      clear hu16
      refine sp 76 h rfl ?_ ?_<;>intro h
      ·refine cq 15 [90] [B true] 403 ?_
       subst h
       exact rf [1,2,5,90] [1,2] (j16 :)
      ·refine cq 4 [80] [B (e3.Kind != 1)] 243 ?_
       obtain⟨u17,hu17,h⟩:=lJ h
       have j17:Run kG 0 (eZ (c_1,i_2) r) (.code Ir::.code yI::[]) (sT 119 [(1,I i_2),(2,.hp 1 0 [] 2 0 0),(5,.hp 2 0 [] 12 0 0),(90,B u17)] [⟨0,2,[aa c_1]⟩,⟨0,12,[aB e3]⟩] 3):=by
        subst h
        exact rf [1,2,5,90] [1,2] (j16 :)
       replace h:=hu17
       clear hu17
       refine sp 80 h rfl ?_ ?_<;>intro h
       ·refine cq 4 [84] [B (e3.Amount != 0)] 307 ?_
        obtain⟨u18,hu18,h⟩:=lJ h
        have j18:Run kG 0 (eZ (c_1,i_2) r) (.code Ir::.code yI::[]) (sT 119 [(1,I i_2),(2,.hp 1 0 [] 2 0 0),(5,.hp 2 0 [] 12 0 0),(90,B u18)] [⟨0,2,[aa c_1]⟩,⟨0,12,[aB e3]⟩] 3):=by
         subst h
         exact rf [1,2,5,90] [1,2] (j17 :)
        replace h:=hu18
        clear hu18
        refine sp 84 h rfl ?_ ?_<;>intro h
        ·refine cq 7 [90] [B true] 403 ?_
         subst h
         exact rf [1,2,5,90] [1,2] (j18 :)
        ·refine cq 7 [90] [B (e3.Within != 0)] 403 ?_
         subst h
         exact rf [1,2,5,90] [1,2] (j18 :)
       ·refine cq 11 [90] [B false] 403 ?_
        subst h
        exact rf [1,2,5,90] [1,2] (j17 :)
   have r7:∀r',y7=.inl r'→∀st,eZ (c_1,i_2) r' st→(eZ (c_1,i_2) r) st:=fun r' e st hq=>by rw[hy71 r' e] at hq;exact hq
   replace h:=hy7
   refine sp 46 h rfl ?_ ?_<;>intro h
   ·refine cq 20 [65] [B true] 403 ?_
    exact rf [1,2,5,65] [1,2] (j7 _ (an h) :)
   ·refine cq 3 [48,49] [I e3.Other,I (ac ((len c_1.Parties) - 1))] 147 ?_
    obtain⟨r19,hr19,h⟩:=bS h
    refine oy 163 (B r19) rfl (cP (jd hr19)) ?_
    refine cq 3 [53] [B (!r19)] 211 ?_
    obtain⟨y20,hy20,hy201,hy202⟩:=bL h
    have j20:∀u20,y20=.inr u20→Run kG 0 (eZ (c_1,i_2) r) (.code N0::.code (cR (cR (cR (cR (cR mP)))))::[]) (sT 119 [(1,I i_2),(2,.hp 1 0 [] 2 0 0),(5,.hp 2 0 [] 12 0 0),(65,B u20)] [⟨0,2,[aa c_1]⟩,⟨0,12,[aB e3]⟩] 3):=by
     intro u20 hu
     replace h:=hy202 u20 hu
     exact rf [1,2,5,65] [1,2] (j7 _ (an h) :)
    have r20:∀r',y20=.inl r'→∀st,eZ (c_1,i_2) r' st→(eZ (c_1,i_2) r) st:=fun r' e st hq=>r7 r' (hy201 r' e) st hq
    replace h:=hy20
    refine sp 53 h rfl ?_ ?_<;>intro h
    ·refine cq 13 [65] [B true] 403 ?_
     exact rf [1,2,5,65] [1,2] (j20 _ (an h) :)
    ·refine cq 7 [60] [B (e3.Party==e3.Other)] 323 ?_
     obtain⟨y21,hy21,hy211,hy212⟩:=bL h
     have j21:∀u21,y21=.inr u21→Run kG 0 (eZ (c_1,i_2) r) (.code N0::.code (cR (cR (cR (cR (cR mP)))))::[]) (sT 119 [(1,I i_2),(2,.hp 1 0 [] 2 0 0),(5,.hp 2 0 [] 12 0 0),(65,B u21)] [⟨0,2,[aa c_1]⟩,⟨0,12,[aB e3]⟩] 3):=by
      intro u21 hu
      replace h:=hy212 u21 hu
      exact rf [1,2,5,65] [1,2] (j20 _ (an h) :)
     have r21:∀r',y21=.inl r'→∀st,eZ (c_1,i_2) r' st→(eZ (c_1,i_2) r) st:=fun r' e st hq=>r20 r' (hy211 r' e) st hq
     replace h:=hy21
     refine sp 60 h rfl ?_ ?_<;>intro h
     ·refine cq 6 [65] [B true] 403 ?_
      exact rf [1,2,5,65] [1,2] (j21 _ (an h) :)
     ·refine cq 2 [62] [ar e3.When] 355 ?_
      obtain⟨r22,hr22,h⟩:=bS h
      refine oy 371 (B r22) rfl (cP (agI hr22)) ?_
      refine cq 3 [65] [B (!r22)] 403 ?_
      exact rf [1,2,5,65] [1,2] (j21 _ (an h) :)
 have r5:∀r',y5=.inl r'→∀st,eZ (c_1,i_2) r' st→(eZ (c_1,i_2) r) st:=fun r' e st hq=>by rw[hy51 r' e] at hq;exact hq
 replace h:=hy5
 refine sp 21 h rfl ?_ ?_<;>intro h
 ·refine cq 20 [40] [B true] 609 ?_
  exact rf [1,2,5,6,40] [1,113] (j5 _ (an h) :)
 ·refine cq 3 [22,24] [aa c_1,str e3.Id] 353 ?_
  obtain⟨r23,hr23,h⟩:=bS h
  refine oy 369 (I r23) rfl (cP (abM hr23)) ?_
  refine cq 4 [29] [B (r23 != i_2)] 433 ?_
  obtain⟨y24,hy24,hy241,hy242⟩:=bL h
  have j24:∀u24,y24=.inr u24→Run kG 0 (eZ (c_1,i_2) r) (.code (cR (cL (cR (cR (cR mP)))))::.code (cR (cR (cR (cR mP))))::[]) (sT 119 [(1,I i_2),(2,.hp 1 0 [] 2 0 0),(5,.hp 2 0 [] 12 0 0),(6,I (ac ((len c_1.Parties) - 1))),(40,B u24)] [⟨0,2,[aa c_1]⟩,⟨0,12,[aB e3]⟩] 3):=by
   intro u24 hu
   replace h:=hy242 u24 hu
   exact rf [1,2,5,6,40] [1,2] (j5 _ (an h) :)
  have r24:∀r',y24=.inl r'→∀st,eZ (c_1,i_2) r' st→(eZ (c_1,i_2) r) st:=fun r' e st hq=>r5 r' (hy241 r' e) st hq
  replace h:=hy24
  refine sp 29 h rfl ?_ ?_<;>intro h
  ·refine cq 12 [40] [B true] 609 ?_
   exact rf [1,2,5,6,40] [1,113] (j24 _ (an h) :)
  ·refine cq 2 [31] [str e3.Action] 465 ?_
   obtain⟨r25,hr25,h⟩:=bS h
   refine oy 481 (B r25) rfl (cP (H7 hr25)) ?_
   refine cq 3 [35] [B (!r25)] 529 ?_
   obtain⟨y26,hy26,hy261,hy262⟩:=bL h
   have j26:∀u26,y26=.inr u26→Run kG 0 (eZ (c_1,i_2) r) (.code (cR (cL (cR (cR (cR mP)))))::.code (cR (cR (cR (cR mP))))::[]) (sT 119 [(1,I i_2),(2,.hp 1 0 [] 2 0 0),(5,.hp 2 0 [] 12 0 0),(6,I (ac ((len c_1.Parties) - 1))),(40,B u26)] [⟨0,2,[aa c_1]⟩,⟨0,12,[aB e3]⟩] 3):=by
    intro u26 hu
    replace h:=hy262 u26 hu
    exact rf [1,2,5,6,40] [1,2] (j24 _ (an h) :)
   have r26:∀r',y26=.inl r'→∀st,eZ (c_1,i_2) r' st→(eZ (c_1,i_2) r) st:=fun r' e st hq=>r24 r' (hy261 r' e) st hq
   replace h:=hy26
   refine sp 35 h rfl ?_ ?_<;>intro h
   ·refine cq 6 [40] [B true] 609 ?_
    exact rf [1,2,5,6,40] [1,113] (j26 _ (an h) :)
   ·refine cq 2 [37] [I e3.Kind] 561 ?_
    obtain⟨r27,hr27,h⟩:=bS h
    refine oy 577 (B r27) rfl (cP (jd hr27)) ?_
    refine cq 3 [40] [B (!r27)] 609 ?_
    exact rf [1,2,5,6,40] [1,113] (j26 _ (an h) :)
theorem aaq {G:b7}:bZ G 100 J0:=gT 2 0 (aO wq (aO ju (aO aaj (aO Zo bv)))) cf Tryz.func100 (fun a r h=>acO a.1 a.2 r h)
def Ib:(Condition×(List ae))→List V:=cA bK (oA (o9 1 str))
def Ie (r:(List ae)):V×List V:=(.usl 1 (r.map str),[.dead])
noncomputable def D1 (cS:(Condition×(List ae))→Option (List ae)):Ent:=bi [false,true] Ib Ie cS
theorem W7 (cS:(Condition×(List ae))→Option (List ae)){x}{r}(h:cS x=some r):(D1 cS).F (Ib x)=some (Ie r):=aJ (aN dP (aK (fu bQ))) h
noncomputable def JR :=D1 (aL ph)
theorem abK {c_3:Condition}{d5:List ae}{r}(h:W6 c_3 d5=some r):JR.F (Ib (c_3,d5))=some (Ie r):=W7 (aL ph) h
noncomputable def Sd :=aH Tryz.f142
noncomputable def LZ (cS:(Condition×(List ae))→Option (List ae)):Env:=ce [(142,(D1 cS))]
def Ic (cS:(Condition×(List ae))→Option (List ae))(x:Condition×(List ae))(r:(List ae)):St→Prop:=QF (LZ cS) Tryz.f142 [false,true] (Ib x) (Ie r)
theorem Se (cS:(Condition×(List ae))→Option (List ae))(c_3:Condition)(d5:List ae):cj (LZ cS) 1 (Ic cS (c_3,d5)) (cL (cL (cR (cL (cR (cR Sd)))))) 0 (pi cS c_3 d5) (fun u=>(sO 27 [(1,.hs 2 0 [] 1 0 (u.map str).length)] [none,some ⟨0,1,u.map str⟩] 3)) fun x4=>(sO 27 [(1,.hs 2 0 [] 1 0 (x4.2.map str).length),(16,.isl false (c_3.Parts.map aI)),(17,I (len c_3.Parts)),(18,I x4.1)] [none,some ⟨0,1,x4.2.map str⟩] 3):=ef (Ig cS c_3 d5) fun {Q K} hK self ih x4 y h hr hn=>by
 unfold mi at h
 refine cq 5 [19] [B (decide (x4.1<(len c_3.Parts)))] 19 ?_
 refine sq h ?_ ?_<;>intro h
 ·refine aq 1 ?_
  refine aq 4 ?_
  obtain⟨e5,he5,h⟩:=bS h
  refine oq 35 (.iptr (ar e5) 0) rfl (al rfl rfl rfl (bo rfl rfl (dK e5) rfl he5)) ?_
  refine ck 2 [6,21] [] [51] [] [.hp 51 0 [] 4 0 0,ar e5] [some ⟨0,4,[.agg [I (0),str ([]),I (0),.isl true []]]⟩] 67 (by kernel_rfl) ?_
  refine gm 51 [.agg [I (0),str ([]),I (0),.usl 4 (([]).map aj)]] rfl rfl (aR (iu (aR (.refl _) (aR (.refl _) (aR (.refl _) (aR (.nil _) fi))))) fi) ?_
  refine ck 5 [22,23] [] [51] [] [ar e5,.hs 2 0 [] 1 0 (x4.2.map str).length] [some ⟨2,4,[ar e5]⟩] 115 (by kernel_rfl) ?_
  obtain⟨r6,hr6,h⟩:=bS h
  refine oq 131 (.hs 115 0 [] 1 0 (r6.map str).length) rfl (bG rfl rfl (bX rfl rfl rfl (bg (bT rfl) (iC (iH rfl (eO (path:=[]) rfl rfl aE rfl)) cX)) (W7 cS hr6) (.inr rfl) (gI rfl rfl rfl mS dF) rfl rfl rfl)) ?_
  refine cq 7 [1,18] [.hs 115 0 [] 1 0 (r6.map str).length,I (ac (x4.1+1))] 179 ?_
  refine cY ?_
  exact rg [1,16,17,18] [180,115] (ih _ _ h hr hn :)
 ·refine aq 1 ?_
  exact rg [1] [20,2] (hn _ (an h) :) (hk:=hK)
theorem acC (cS:(Condition×(List ae))→Option (List ae))(c_3:Condition)(d5:List ae)(r:(List ae))(h:zK cS c_3 d5=some r):br (LZ cS) Tryz.f142 [false,true] 1 (Ib (c_3,d5)) (Ie r):=by
 show Run _ _ (Ic cS (c_3,d5) r) [.code Sd] _
 refine rI 27 [(0,ar c_3),(1,.hs 1 0 [] 1 0 (d5.map str).length)] [(1,some ⟨0,1,d5.map str⟩)] 2 ?_
 unfold zK at h
 refine ck 12 [2,9] [] [2] [] [.hp 2 0 [] 4 0 0,B (c_3.Op==2)] [some ⟨0,4,[ar c_3]⟩] 82 (by kernel_rfl) ?_
 obtain⟨y3,hy3,hy31,hy32⟩:=bJ h
 have j3:∀u3,y3=.inr u3→Run (LZ cS) 1 (Ic cS (c_3,d5) r) (.code (cR (cR Sd))::[]) (sO 27 [(1,.hs 2 0 [] 1 0 (u3.map str).length),(2,.hp 3 0 [] 4 0 0)] [none,some ⟨0,1,u3.map str⟩,some ⟨0,4,[ar c_3]⟩] 4):=by
  intro u3 hu
  replace h:=hy32 u3 hu
  refine cq 5 [16] [.isl false (c_3.Parts.map aI)] 36 ?_
  refine oq 52 (I (len c_3.Parts)) rfl (bw rfl rfl rfl (bN rfl)) ?_
  refine cq 3 [18] [I (0)] 68 ?_
  obtain⟨y7,hy7,hy71,hy72⟩:=bJ h
  refine bO rfl ?_
  refine rg [1,16,17,18] [69,2] (Se cS c_3 d5 rfl (0,u3) _ hy7 (fun r' e st hq=>by rw[hy71 r' e] at hq;exact hq) fun u7 hu=>?_)
  replace h:=hy72 u7 hu
  refine cq 5 [4] [.hs 2 0 [] 1 0 (u7.map str).length] 35 ?_
  obtain rfl:=sI h
  exact b8 rfl ⟨_,fin (vs:=[.hs 2 0 [] 1 0 (u7.map str).length]) rfl (eV (fZ rfl (dx rfl rfl)) dU) rfl (cu (jq rfl (lK rfl) eN)),sJ eH⟩
 have r3:∀r',y3=.inl r'→∀st,Ic cS (c_3,d5) r' st→(Ic cS (c_3,d5) r) st:=fun r' e st hq=>by rw[hy31 r' e] at hq;exact hq
 replace h:=hy3
 refine sq h ?_ ?_<;>intro h
 ·refine cq 4 [10,12] [.hs 1 0 [] 1 0 (d5.map str).length,str c_3.Name] 130 ?_
  refine oq 146 (.hs 130 0 [] 1 0 1) rfl (eM rfl (kI (f:=I) (xs:=[]) (z:=str ([])) (es:=[str c_3.Name]) (ws:=[str c_3.Name]) rfl rfl rfl (by decide) rfl (dY rfl) rfl)) ?_
  obtain⟨a8,ha8,h⟩:=bS h
  refine oq 162 (.hs 146 0 [] 1 0 (a8.map str).length) rfl (kJ rfl rfl rfl rfl rfl (pn (path:=[]) (f:=str) (xs:=d5) (ys:=[c_3.Name]) rfl rfl (vO rfl rfl rfl) rfl rfl rfl aE rfl (by decide) mF ha8 rfl sV)) ?_
  refine cq 2 [1] [.hs 146 0 [] 1 0 (a8.map str).length] 178 ?_
  exact rg [1,2] [179,146,2] (j3 _ (an h) :)
 ·refine aq 1 ?_
  exact rg [1,2] [83,1,2] (j3 _ (an h) :)
theorem aah {G:b7}:bZ G 142 JR:=jM fun cS g_Ffh=>gT 2 1 (aO g_Ffh bv) cf Tryz.func142 (fun a r h=>acC cS a.1 a.2 r h)
def Pp:Shelf.Ren:=⟨fun | 190=>177 | 125=>192 | 258=>191 | 128=>214 | 129=>215 | 302=>205 | 303=>206 | 304=>207 | 305=>208 | 306=>209 | 307=>210 | 308=>211 | 309=>212 | 310=>213 | 333=>226 | 329=>227 | 330=>228 | 334=>229 | 335=>230 | 336=>231 | 344=>236 | n=>n,fun | 31=>22 | 9=>9 | 3=>3 | 46=>158 | 0=>0 | 51=>195 | 53=>181 | 4=>4 | 183=>188 | 182=>187 | 131=>43 | 5=>5 | 218=>199 | 222=>203 | 228=>211 | 229=>212 | n=>n,fun | n=>n⟩
theorem abz:Go.Proofs.Lays.n190 Tryz.prog Pp where
 mixed:=by kernel_rfl
 f125:=Tryz.func192.trans (congrArg some (by kernel_rfl))
 f128:=Tryz.func214.trans (congrArg some (by kernel_rfl))
 f129:=Tryz.func215.trans (congrArg some (by kernel_rfl))
 f190:=Tryz.func177.trans (congrArg some (by kernel_rfl))
 f258:=Tryz.func191.trans (congrArg some (by kernel_rfl))
 f302:=Tryz.func205.trans (congrArg some (by kernel_rfl))
 f303:=Tryz.func206.trans (congrArg some (by kernel_rfl))
 f304:=Tryz.func207.trans (congrArg some (by kernel_rfl))
 f305:=Tryz.func208.trans (congrArg some (by kernel_rfl))
 f306:=Tryz.func209.trans (congrArg some (by kernel_rfl))
 f307:=Tryz.func210.trans (congrArg some (by kernel_rfl))
 f308:=Tryz.func211.trans (congrArg some (by kernel_rfl))
 f309:=Tryz.func212.trans (congrArg some (by kernel_rfl))
 f310:=Tryz.func213.trans (congrArg some (by kernel_rfl))
 f329:=Tryz.func227.trans (congrArg some (by kernel_rfl))
 f330:=Tryz.func228.trans (congrArg some (by kernel_rfl))
 f333:=Tryz.func226.trans (congrArg some (by kernel_rfl))
 f334:=Tryz.func229.trans (congrArg some (by kernel_rfl))
 f335:=Tryz.func230.trans (congrArg some (by kernel_rfl))
 f336:=Tryz.func231.trans (congrArg some (by kernel_rfl))
 f344:=Tryz.func236.trans (congrArg some (by kernel_rfl))
 t0:=Tryz.underlying0
 a0:=Tryz.isAgg0
 z0:=Tryz.sizeOf0
 v0:=Tryz.zeroValue0
 t3:=Tryz.underlying3
 a3:=Tryz.isAgg3
 z3:=Tryz.sizeOf3
 v3:=Tryz.zeroValue3
 t4:=Tryz.underlying4
 a4:=Tryz.isAgg4
 z4:=Tryz.sizeOf4
 v4:=Tryz.zeroValue4
 t5:=Tryz.underlying5
 a5:=Tryz.isAgg5
 z5:=Tryz.sizeOf5
 v5:=Tryz.zeroValue5
 t9:=Tryz.underlying9
 a9:=Tryz.isAgg9
 z9:=Tryz.sizeOf9
 v9:=Tryz.zeroValue9
 t31:=Tryz.underlying22
 a31:=Tryz.isAgg22
 z31:=Tryz.sizeOf22
 v31:=Tryz.zeroValue22
 t46:=Tryz.underlying158
 a46:=Tryz.isAgg158
 z46:=Tryz.sizeOf158
 v46:=Tryz.zeroValue158
 t51:=Tryz.underlying195
 a51:=Tryz.isAgg195
 z51:=Tryz.sizeOf195
 v51:=Tryz.zeroValue195
 t53:=Tryz.underlying181
 a53:=Tryz.isAgg181
 z53:=Tryz.sizeOf181
 v53:=Tryz.zeroValue181
 t131:=Tryz.underlying43
 a131:=Tryz.isAgg43
 z131:=Tryz.sizeOf43
 v131:=Tryz.zeroValue43
 t182:=Tryz.underlying187
 a182:=Tryz.isAgg187
 z182:=Tryz.sizeOf187
 v182:=Tryz.zeroValue187
 t183:=Tryz.underlying188
 a183:=Tryz.isAgg188
 z183:=Tryz.sizeOf188
 v183:=Tryz.zeroValue188
 t218:=Tryz.underlying199
 a218:=Tryz.isAgg199
 z218:=Tryz.sizeOf199
 v218:=Tryz.zeroValue199
 t222:=Tryz.underlying203
 a222:=Tryz.isAgg203
 z222:=Tryz.sizeOf203
 v222:=Tryz.zeroValue203
 t228:=Tryz.underlying211
 a228:=Tryz.isAgg211
 z228:=Tryz.sizeOf211
 v228:=Tryz.zeroValue211
 t229:=Tryz.underlying212
 a229:=Tryz.isAgg212
 z229:=Tryz.sizeOf212
 v229:=Tryz.zeroValue212
noncomputable def xf :=bi [true] (oA (o9 1 str)) (fun r=>(.tup [],[.usl 1 (r.map str)])) vR
theorem aby {l:List ae}{r}(h:vR l=some r):xf.F [.usl 1 (l.map str)]=some (.tup [],[.usl 1 (r.map str)]):=aJ (ea:=oA (o9 1 str)) (aK (fu bQ)) h
theorem QK {G:b7}:bZ G 177 xf:=SI abz
def F3:(List ae)→List V:=oA (o9 1 str)
def F5 (r:(List ae)):V×List V:=(.usl 1 (r.map str),[.dead])
noncomputable def C3 :=bi [true] F3 F5 fun x=>C2 x
theorem ae0 {s_2:List ae}{r}(h:C2 s_2=some r):C3.F (F3 s_2)=some (F5 r):=aJ (aK (fu bQ)) h
noncomputable def Ng :=aH Tryz.f178
noncomputable abbrev Jv :=cL (cL (cR (cL (cR (cL (cR (cL (cL (cR (cL (cL (cR (cL (cR (cR Ng)))))))))))))))
noncomputable def xW :=ce []
def F4 (x:(List ae))(r:(List ae)):St→Prop:=QF xW Tryz.f178 [true] (F3 x) (F5 r)
theorem PN (s_2:List ae)(x2:Int):cj xW 1 (F4 s_2) Jv 2 (lm s_2 x2) (fun u=>(sO 61 [(0,.hs 2 0 [] 1 0 (u.2.map str).length),(3,I u.1)] [none,some ⟨0,1,u.2.map str⟩] 3)) fun x6=>(sO 61 [(0,.hs 2 0 [] 1 0 (x6.2.2.map str).length),(3,I x6.1),(4,.hs 2 0 [] 1 (0+Int.toNat x2) (Int.toNat (len s_2) - Int.toNat x2)),(5,I x6.2.1)] [none,some ⟨0,1,x6.2.2.map str⟩] 3):=ef (AM s_2 x2) fun {Q K} hK self ih x6 y h hr hn=>by
 unfold lZ at h
 refine cq 8 [32] [B (decide (x6.2.1<(((Int.toNat (len s_2) - Int.toNat x2):Nat):Int)))] 67 ?_
 refine sq h ?_ ?_<;>intro h
 ·refine aq 1 ?_
  refine aq 3 ?_
  refine eb [0,0,3,7,0,0,32,112,240,511] rfl (by decide +kernel) ?_
  refine dk 2 [36,35] [I x6.2.1,.hs 2 0 [] 1 (0+Int.toNat x2) (Int.toNat (len s_2) - Int.toNat x2)] ?_
  obtain⟨e7,he7,h⟩:=bS h
  refine dq [2] [] (.hp 2 0 [] 1 ((0+Int.toNat x2)+Int.toNat x6.2.1) 0) rfl (al rfl rfl rfl (SS (xs:=x6.2.2) rfl rfl he7)) ?_
  refine dq [2] [] (str e7) rfl (aX rfl (gk (path:=[]) rfl rfl rfl aE (OE (f:=str) (xs:=x6.2.2) he7) rfl rfl rfl)) ?_
  refine dk 3 [41,40,39] [I (ac (x6.2.1 - 1)),I x6.2.1,.hs 2 0 [] 1 (0+Int.toNat x2) (Int.toNat (len s_2) - Int.toNat x2)] ?_
  obtain⟨e8,he8,h⟩:=bS h
  refine dq [2] [] (.hp 2 0 [] 1 ((0+Int.toNat x2)+Int.toNat (ac (x6.2.1 - 1))) 0) rfl (al rfl rfl rfl (SS (xs:=x6.2.2) rfl rfl he8)) ?_
  refine dq [2] [] (str e8) rfl (aX rfl (gk (path:=[]) rfl rfl rfl aE (OE (f:=str) (xs:=x6.2.2) he8) rfl rfl rfl)) ?_
  refine dk 1 [44] [B (!(e7==e8))] ?_
  refine de 227 rfl rfl ?_
  obtain⟨y9,hy9,hy91,hy92⟩:=bL h
  have j9:∀u9,y9=.inr u9→Run xW 1 Q (.blk 3::.code (cR (cR Jv))::.lp Jv::.blk 2::K) (sO 61 [(0,.hs 2 0 [] 1 0 (u9.2.map str).length),(3,I u9.1),(4,.hs 2 0 [] 1 (0+Int.toNat x2) (Int.toNat (len s_2) - Int.toNat x2)),(5,I x6.2.1)] [none,some ⟨0,1,u9.2.map str⟩] 3):=by
   intro u9 hu
   replace h:=hy92 u9 hu
   refine cq 6 [5] [I (ac (x6.2.1+1))] 51 ?_
   refine cY ?_
   exact rg [0,3,4,5] [52,2] (ih _ _ h hr hn :)
  have r9:∀r',y9=.inl r'→∀st,F4 s_2 r' st→Q st:=fun r' e st hq=>hr r' (hy91 r' e) st hq
  replace h:=hy9
  refine sq h ?_ ?_<;>intro h
  ·refine cq 6 [45,46,47,48] [.hs 2 0 [] 1 0 (x6.2.2.map str).length,I x6.1,.hs 2 0 [] 1 (0+Int.toNat x2) (Int.toNat (len s_2) - Int.toNat x2),I x6.2.1] 291 ?_
   obtain⟨e10,he10,h⟩:=bS h
   refine oq 307 (.hp 2 0 [] 1 ((0+Int.toNat x2)+Int.toNat x6.2.1) 0) rfl (al rfl rfl rfl (SS (xs:=x6.2.2) rfl rfl he10)) ?_
   refine oq 323 (str e10) rfl (aX rfl (gk (path:=[]) rfl rfl rfl aE (OE (f:=str) (xs:=x6.2.2) he10) rfl rfl rfl)) ?_
   obtain⟨e11,he11,h⟩:=bS h
   refine oq 339 (.hp 2 0 [] 1 (0+Int.toNat x6.1) 0) rfl (al rfl rfl rfl (cp (f:=str) (xs:=x6.2.2) rfl rfl rfl he11)) ?_
   refine o0 355 rfl rfl (et rfl rfl (dG (path:=[]) (pl:=true) (e':=str e10) (es2':=(bM x6.2.2 x6.1 e10).map str) rfl (ba rfl) rfl rfl rfl aE (bU (f:=str) (xs:=x6.2.2) he11) rfl rfl rfl (gD (f:=str) (xs:=x6.2.2) (y:=e10)) cM 0 rfl)) ?_
   try rw[←fK (f:=str) (xs:=x6.2.2) (i:=x6.1) (z:=e10)]
   refine cq 6 [3] [I (ac (x6.1+1))] 403 ?_
   exact rg [0,3,4,5] [404,2] (j9 _ (an h) :)
  ·refine aq 1 ?_
   exact rg [0,3,4,5] [228,2] (j9 _ (an h) :)
 ·refine aq 1 ?_
  exact rg [0,3] [68,2] (hn _ (an h) :) (hk:=hK)
theorem PM (s_2:List ae):cj xW 1 (F4 s_2) (cL (cL (cR (cL (cR (cR Ng)))))) 0 (rO s_2) (fun u=>(sO 61 [(0,.hs 2 0 [] 1 0 (u.map str).length)] [none,some ⟨0,1,u.map str⟩] 3)) fun x2=>(sO 61 [(0,.hs 2 0 [] 1 0 (s_2.map str).length),(3,I x2)] [none,some ⟨0,1,s_2.map str⟩] 3):=ef (AL s_2) fun {Q K} hK self ih x2 y h hr hn=>by
 unfold lY at h
 refine cq 5 [10,11] [I x2,.hs 2 0 [] 1 0 (s_2.map str).length] 35 ?_
 refine oq 51 (I (len s_2)) rfl (bw rfl rfl rfl (nG (f:=str) (xs:=s_2) rfl rfl)) ?_
 refine cq 2 [13] [B (decide (x2<(len s_2)))] 67 ?_
 refine sq h ?_ ?_<;>intro h
 ·refine aq 1 ?_
  refine aq 3 ?_
  refine eb [0,0,3,7,0,0,32,112,240,511] rfl (by decide +kernel) ?_
  refine dk 2 [17,16] [I x2,.hs 2 0 [] 1 0 (s_2.map str).length] ?_
  obtain⟨e3,he3,h⟩:=bS h
  refine dq [2] [] (.hp 2 0 [] 1 (0+Int.toNat x2) 0) rfl (al rfl rfl rfl (cp (f:=str) (xs:=s_2) rfl rfl rfl he3)) ?_
  refine dq [2] [] (str e3) rfl (aX rfl (gk (path:=[]) rfl rfl rfl aE (bU (f:=str) (xs:=s_2) he3) rfl rfl rfl)) ?_
  refine dk 3 [22,21,20] [I (ac (x2 - 1)),I x2,.hs 2 0 [] 1 0 (s_2.map str).length] ?_
  obtain⟨e4,he4,h⟩:=bS h
  refine dq [2] [] (.hp 2 0 [] 1 (0+Int.toNat (ac (x2 - 1))) 0) rfl (al rfl rfl rfl (cp (f:=str) (xs:=s_2) rfl rfl rfl he4)) ?_
  refine dq [2] [] (str e4) rfl (aX rfl (gk (path:=[]) rfl rfl rfl aE (bU (f:=str) (xs:=s_2) he4) rfl rfl rfl)) ?_
  refine dk 1 [25] [B (e3==e4)] ?_
  refine de 227 rfl rfl ?_
  refine sq h ?_ ?_<;>intro h
  ·refine cq 4 [26,27] [.hs 2 0 [] 1 0 (s_2.map str).length,I x2] 259 ?_
   obtain⟨s5,hs5,h⟩:=bS h
   refine oq 275 (.hs 2 0 [] 1 (0+Int.toNat x2) (Int.toNat (len s_2) - Int.toNat x2)) rfl (iD rfl rfl rfl rfl (vM (f:=str) (xs:=s_2) rfl rfl rfl rfl (aaD rfl) hs5)) ?_
   refine cq 8 [4,5] [.hs 2 0 [] 1 (0+Int.toNat x2) (Int.toNat (len s_2) - Int.toNat x2),I (1)] 307 ?_
   obtain⟨y15,hy15,hy151,hy152⟩:=bL h
   refine bO rfl ?_
   refine rg [0,3,4,5] [308,2] (PN s_2 x2 rfl (x2,1,s_2) _ hy15 (fun r' e st hq=>hr r' (hy151 r' e) st hq) fun u15 hu=>?_)
   replace h:=hy152 u15 hu
   refine cq 4 [54,55] [.hs 2 0 [] 1 0 (u15.2.map str).length,I u15.1] 35 ?_
   obtain⟨s16,hs16,h⟩:=bS h
   refine oq 51 (.hs 2 0 [] 1 (0+Int.toNat u15.1) (Int.toNat (len u15.2) - Int.toNat u15.1)) rfl (iD rfl rfl rfl rfl (vM (f:=str) (xs:=u15.2) rfl rfl rfl rfl (aaD rfl) hs16)) ?_
   obtain⟨k17,hk17,h⟩:=bS h
   refine o0 67 rfl rfl (ada rfl rfl (ahk (f:=str) (xs:=u15.2) (z0:=[]) rfl rfl rfl rfl (by decide) nU hk17)) ?_
   try rw[show (u15.2.map str).length=(k17.map str).length from ac6 hk17]
   refine cq 5 [57,58] [.hs 2 0 [] 1 0 (k17.map str).length,I u15.1] 99 ?_
   obtain⟨s18,hs18,h⟩:=bS h
   refine oq 115 (.hs 2 0 [] 1 (0+Int.toNat (0)) (Int.toNat u15.1 - Int.toNat (0))) rfl (iD rfl rfl rfl rfl (vM (f:=str) (xs:=k17) rfl rfl rfl rfl rfl hs18)) ?_
   refine cq 2 [2] [.hs 2 0 [] 1 (0+Int.toNat (0)) (Int.toNat u15.1 - Int.toNat (0))] 131 ?_
   obtain⟨p19,hp19,h⟩:=bS h
   exact b8 rfl (hr _ (an h) _ ⟨_,fin (vs:=[.hs 2 0 [] 1 (0+Int.toNat (0)) (Int.toNat u15.1 - Int.toNat (0))]) rfl (eV (fZ rfl (Xf (path:=[]) (f:=str) (xs:=k17) rfl rfl aE hp19 rfl sV)) dU) rfl (jq rfl (lK rfl) eN),sJ eH⟩)
  ·refine aq 1 ?_
   refine cq 6 [3] [I (ac (x2+1))] 275 ?_
   refine cY ?_
   exact rg [0,3] [276,2] (ih _ _ h hr hn :)
 ·refine aq 1 ?_
  exact rg [0] [68,2] (hn _ (an h) :) (hk:=hK)
theorem Zm (s_2:List ae)(r:(List ae))(h:C2 s_2=some r):br xW Tryz.f178 [true] 1 (F3 s_2) (F5 r):=by
 show Run _ _ (F4 s_2 r) [.code Ng] _
 refine rI 61 [(0,.hs 1 0 [] 1 0 (s_2.map str).length)] [(1,some ⟨0,1,s_2.map str⟩)] 2 ?_
 unfold C2 at h
 refine cq 8 [6] [.hs 1 0 [] 1 0 (s_2.map str).length] 34 ?_
 refine oq 50 (I (len s_2)) rfl (bw rfl rfl rfl (nG (f:=str) (xs:=s_2) rfl rfl)) ?_
 refine cq 2 [8] [B (decide ((len s_2)<2))] 66 ?_
 refine sq h ?_ ?_<;>intro h
 ·refine cq 5 [2] [.hs 1 0 [] 1 0 (s_2.map str).length] 98 ?_
  obtain rfl:=sI h
  exact b8 rfl ⟨_,fin (vs:=[.hs 1 0 [] 1 0 (s_2.map str).length]) rfl (eV (fZ rfl (dx rfl rfl)) dU) rfl (jq rfl (lK rfl) eN),sJ eH⟩
 ·refine aq 1 ?_
  refine cq 6 [3] [I (1)] 82 ?_
  obtain⟨y20,hy20,hy201,hy202⟩:=bJ h
  refine bO rfl ?_
  refine rg [0,3] [83,1] (PM s_2 rfl 1 _ hy20 (fun r' e st hq=>by rw[hy201 r' e] at hq;exact hq) fun u20 hu=>?_)
  replace h:=hy202 u20 hu
  refine cq 5 [2] [.hs 2 0 [] 1 0 (u20.map str).length] 35 ?_
  obtain rfl:=sI h
  exact b8 rfl ⟨_,fin (vs:=[.hs 2 0 [] 1 0 (u20.map str).length]) rfl (eV (fZ rfl (dx rfl rfl)) dU) rfl (jq rfl (lK rfl) eN),sJ eH⟩
theorem Vp {G:b7}:bZ G 178 C3:=gT 1 1 bv cf Tryz.func178 (fun a r h=>Zm a r h)
def EF:(List ae)→List V:=oA (o9 1 str)
def EG (r:(List ae)):V×List V:=(.usl 1 (r.map str),[.dead])
noncomputable def B8 :=bi [true] EF EG fun x=>B7 x
theorem adU {ki:List ae}{r}(h:B7 ki=some r):B8.F (EF ki)=some (EG r):=aJ (aK (fu bQ)) h
noncomputable def adW :=aH Tryz.f143
noncomputable def Tw :=ce [(177,xf),(178,C3)]
def adV (x:(List ae))(r:(List ae)):St→Prop:=QF Tw Tryz.f143 [true] (EF x) (EG r)
theorem Yy (ki:List ae)(r:(List ae))(h:B7 ki=some r):br Tw Tryz.f143 [true] 1 (EF ki) (EG r):=by
 show Run _ _ (adV ki r) [.code adW] _
 refine rI 7 [(0,.hs 1 0 [] 1 0 (ki.map str).length)] [(1,some ⟨0,1,ki.map str⟩)] 2 ?_
 unfold B7 at h
 refine cq 7 [3] [.hs 1 0 [] 1 0 (ki.map str).length] 34 ?_
 obtain⟨r2,hr2,h⟩:=bS h
 obtain⟨g3,h⟩:=gG h
 refine oq 50 (.tup []) rfl (bG rfl rfl (bX rfl rfl rfl (iC (iH rfl (eO (path:=[]) rfl rfl aE rfl)) cX) (aby hr2) (.inr rfl) (gI rfl rfl rfl rfl dF) rfl rfl rfl)) ?_
 try rw[eA (f:=str) (xs:=ki) (ys:=r2) g3]
 refine cq 4 [5] [.hs 1 0 [] 1 0 (r2.map str).length] 66 ?_
 obtain⟨r4,hr4,h⟩:=bS h
 refine oq 82 (.hs 66 0 [] 1 0 (r4.map str).length) rfl (bG rfl rfl (bX rfl rfl rfl (iC (iH rfl (eO (path:=[]) rfl rfl aE rfl)) cX) (ae0 hr4) (.inr rfl) (gI rfl rfl rfl mS dF) rfl rfl rfl)) ?_
 refine cq 2 [2] [.hs 66 0 [] 1 0 (r4.map str).length] 98 ?_
 obtain rfl:=sI h
 exact b8 rfl ⟨_,fin (vs:=[.hs 66 0 [] 1 0 (r4.map str).length]) rfl (eV (fZ rfl (dx rfl rfl)) dU) rfl (jq rfl (lK rfl) eN),sJ eH⟩
theorem Tx {G:b7}:bZ G 143 B8:=gT 1 1 (aO QK (aO Vp bv)) cf Tryz.func143 (fun a r h=>Yy a r h)
def Mh:Contract→List V:=oA aP
def Mi (r:(List ae)):V×List V:=(.usl 1 (r.map str),[])
noncomputable def zN :=bi [false] Mh Mi fun x=>yH x
theorem abT {c_1:Contract}{r}(h:yH c_1=some r):zN.F (Mh c_1)=some (Mi r):=aJ (aK bb) h
noncomputable def abV :=aH Tryz.f101
noncomputable def Sj :=ce [(142,JR),(143,B8)]
def abU (x:Contract)(r:(List ae)):St→Prop:=QF Sj Tryz.f101 [false] (Mh x) (Mi r)
theorem Sk (c_1:Contract):cj Sj 0 (abU c_1) (cL (cL (cR (cL (cR (cR abV)))))) 0 (qM c_1) (fun u=>(sT 25 [(3,.hs 1 0 [] 1 0 (u.map str).length)] [⟨0,1,u.map str⟩] 2)) fun x2=>(sT 25 [(3,.hs 1 0 [] 1 0 (x2.2.map str).length),(8,.isl false (c_1.Clauses.map au)),(9,I (len c_1.Clauses)),(10,I x2.1)] [⟨0,1,x2.2.map str⟩] 2):=ef (Iq c_1) fun {Q K} hK self ih x2 y h hr hn=>by
 unfold nN at h
 refine cq 5 [11] [B (decide (x2.1<(len c_1.Clauses)))] 18 ?_
 refine sq h ?_ ?_<;>intro h
 ·refine aq 1 ?_
  refine aq 4 ?_
  obtain⟨e3,he3,h⟩:=bS h
  refine oq 34 (.iptr (aB e3) 0) rfl (al rfl rfl rfl (bo rfl rfl rfl rfl he3)) ?_
  refine ck 2 [5,13] [] [50] [] [.hp 50 0 [] 12 0 0,aB e3] [some ⟨0,12,[.agg [str ([]),I (0),I (0),str ([]),I (0),I (0),I (0),str ([]),I (0),.isl true [],I (0),str ([])]]⟩] 66 (by kernel_rfl) ?_
  refine gm 50 [.agg [str ([]),I (0),I (0),str ([]),I (0),I (0),I (0),str ([]),I (0),.usl 4 (([]).map aj),I (0),str ([])]] rfl rfl (aR (iu (aR (.refl _) (aR (.refl _) (aR (.refl _) (aR (.refl _) (aR (.refl _) (aR (.refl _) (aR (.refl _) (aR (.refl _) (aR (.refl _) (aR (.nil _) (aR (.refl _) (aR (.refl _) fi))))))))))))) fi) ?_
  refine ck 2 [] [] [50] [] [] [some ⟨2,12,[aB e3]⟩] 82 (by kernel_rfl) ?_
  refine eb [0,1,0,0,8,24,60,127,255] rfl (by decide +kernel) ?_
  refine dq [50] [] (.hp 50 0 [] 12 0 6) rfl (az rfl rfl rfl) ?_
  refine dq [50] [] (ar e3.When) rfl (aX rfl rfl) ?_
  refine dk 1 [16] [.hs 1 0 [] 1 0 (x2.2.map str).length] ?_
  refine dq [50] [] (.hp 50 0 [] 12 0 3) rfl (az rfl rfl rfl) ?_
  refine dq [50] [] (str e3.Action) rfl (aX rfl rfl) ?_
  refine dq [] [] (.hs 162 0 [] 1 0 1) rfl (eM rfl (kI (f:=I) (xs:=[]) (z:=str ([])) (es:=[str e3.Action]) (ws:=[str e3.Action]) rfl rfl rfl (by decide) rfl (dY rfl) rfl)) ?_
  obtain⟨a4,ha4,h⟩:=bS h
  refine dq [1,162] [1] (.hs 178 0 [] 1 0 (a4.map str).length) rfl (kJ rfl rfl rfl rfl rfl (pn (path:=[]) (f:=str) (xs:=x2.2) (ys:=[e3.Action]) rfl rfl (vO rfl rfl rfl) rfl rfl rfl aE rfl (by decide) mF ha4 rfl sV)) ?_ (Jp rfl (IB (path:=[]) (f:=str) (xs:=[e3.Action]) rfl rfl aE nU rfl))
  obtain⟨r5,hr5,h⟩:=bS h
  refine dq [178] [178] (.hs 194 0 [] 1 0 (r5.map str).length) rfl (bG rfl rfl (bX rfl rfl rfl (bg (bT rfl) (iC (iH rfl (eO (path:=[]) rfl rfl aE rfl)) cX)) (abK hr5) (.inr rfl) (gI rfl rfl rfl mS dF) rfl rfl rfl)) ?_ (d3 rfl rfl rfl rfl (bg (bT rfl) (iC (iH rfl (eO (path:=[]) rfl rfl aE rfl)) cX)) (abK hr5) (.inr rfl) rfl)
  refine dk 1 [3] [.hs 194 0 [] 1 0 (r5.map str).length] ?_
  refine de 226 rfl rfl ?_
  refine cq 5 [10] [I (ac (x2.1+1))] 258 ?_
  refine cY ?_
  exact rf [3,8,9,10] [194] (ih _ _ h hr hn :)
 ·refine aq 1 ?_
  exact rf [3] [1] (hn _ (an h) :) (hk:=hK)
end Go.Ln
