/-
  The walks.
-/
import Derived.Test.YtdgacehhaienbaaGreatDoorFnExactNextDeadlineFun
import Derived.Test.YtdgacehhaienbaaGreatDoorChecked
set_option maxHeartbeats 4000000
set_option linter.unusedVariables false
set_option linter.unusedSimpArgs false
set_option maxRecDepth 100000
namespace Go.Ln
open Go Go.Proofs
section
noncomputable abbrev ci:=Checked.mixed Tryz.checked
noncomputable def Ds:((List ac)×Int)→List V:=cA (fY str) (oA I)
noncomputable def Dt (r:Int):V×List V:=(I r,[])
noncomputable def uF:Ent:=bm [false,false] Ds Dt fun x=>wi x.1 x.2
theorem Rh {a_1:List ac}{ar:Int}{r}(h:wi a_1 ar=some r):uF.F (Ds (a_1,ar))=some (Dt r):=aI (aU (ce bQ) (aJ bG)) h
noncomputable def Rj:Code:=aG Tryz.f60
noncomputable def Kp:Env:=b7 Tryz.prog []
noncomputable def Ri (x:(List ac)×Int)(r:Int):St→Prop:=QF Kp Tryz.f60 [false,false] (Ds x) (Dt r)
theorem MO (a_1:List ac)(ar:Int):cj Kp 0 (Ri (a_1,ar)) (cL (cL (cR (cL (cR (cR (cR Rj))))))) 0 (sZ a_1 ar) (fun u=>(sT 28 [(1,I u)] [] 1)) fun x3=>(sT 28 [(0,.isl false (a_1.map str)),(1,I x3.1),(5,I x3.2)] [] 1):=ef (yN a_1 ar) fun {Q K} hK self ih x3 y h hr hn=>by
 unfold mS at h
 refine cq 5 [12,13] [I x3.2,.isl false (a_1.map str)] 33 ?_
 refine oq 49 (I (len a_1)) rfl (bu rfl rfl rfl (bI rfl)) ?_
 refine cq 2 [15] [B (decide (x3.2<(len a_1)))] 65 ?_
 refine sq h ?_ ?_<;>intro h
 ·refine aq 1 ?_
  refine cq 7 [18,19,20] [I x3.1,.isl false (a_1.map str),I x3.2] 113 ?_
  obtain⟨e4,he4,h⟩:=bS h
  refine oq 129 (.iptr (str e4) 0) rfl (aj rfl rfl rfl (bd rfl rfl rfl rfl he4)) ?_
  refine cq 10 [1,26] [I (ai (x3.1 - (len e4))),B (decide ((ai (x3.1 - (len e4)))<0))] 225 ?_
  refine sq h ?_ ?_<;>intro h
  ·refine cq 4 [4] [I (-1)] 241 ?_
   exact co rfl (hr _ (ak h) _ (qp [I (-1)]))
  ·refine aq 1 ?_
   refine cq 6 [5] [I (ai (x3.2+1))] 273 ?_
   refine cZ ?_
   exact rf [0,1,5] [] (ih _ _ h hr hn :)
 ·refine aq 1 ?_
  exact rf [1] [] (hn _ (ak h) :) (hk:=hK)
theorem Vf (a_1:List ac)(ar:Int)(r:Int)(h:wi a_1 ar=some r):bA Kp Tryz.f60 [false,false] 0 (Ds (a_1,ar)) (Dt r):=by
 show Run _ _ (Ri (a_1,ar) r) [.code Rj] _
 refine rI 28 [(0,.isl false (a_1.map str)),(1,I ar)] [] 1 ?_
 unfold wi at h
 refine cq 8 [6,7] [I ar,.isl false (a_1.map str)] 49 ?_
 refine oq 65 (I (len a_1)) rfl (bu rfl rfl rfl (bI rfl)) ?_
 refine cq 9 [1,11] [I (ai (ar - (len a_1))),B (decide ((ai (ar - (len a_1)))<0))] 129 ?_
 refine sq h ?_ ?_<;>intro h
 ·refine cq 4 [4] [I (-1)] 145 ?_
  obtain rfl:=Option.some.inj h
  exact rP [I (-1)]
 ·refine aq 1 ?_
  refine cq 6 [5] [I (0)] 145 ?_
  obtain⟨y5,hy5,hy51,hy52⟩:=bJ h
  refine bN rfl ?_
  refine rf [0,1,5] [] (MO a_1 ar rfl ((ai (ar - (len a_1))),0) _ hy5 (fun r' e st hq=>by rw[hy51 r' e] at hq;exact hq) fun u5 hu=>?_)
  replace h:=hy52 u5 hu
  refine cq 5 [4] [I u5] 33 ?_
  obtain rfl:=Option.some.inj h
  exact rP [I u5]
theorem H5 {G:Go.Ln.Ground}:aV Tryz.prog G 60 uF:=gT 2 0 bF ci Tryz.func60 (fun a r h=>Vf a.1 a.2 r h)
noncomputable def we:(Condition×Int)→List V:=cA bB (oA I)
noncomputable def wg (r:Int):V×List V:=(I r,[])
noncomputable def rJ (bq:(Condition×Int)→Option Int):Ent:=bm [false,false] we wg bq
theorem NS (bq:(Condition×Int)→Option Int){x}{r}(h:bq x=some r):(rJ bq).F (we x)=some (wg r):=aI (aU dt (aJ bG)) h
noncomputable def Dh:((List Condition)×Int)→List V:=cA (fY aE) (oA I)
noncomputable def Di (r:Int):V×List V:=(I r,[])
noncomputable def AP (bq:(Condition×Int)→Option Int):Ent:=bm [false,false] Dh Di fun x=>wh bq x.1 x.2
theorem aaf (bq:(Condition×Int)→Option Int){a_1:List Condition}{ar:Int}{r}(h:wh bq a_1 ar=some r):(AP bq).F (Dh (a_1,ar))=some (Di r):=aI (aU (ce fu) (aJ bG)) h
noncomputable def Q6:Code:=aG Tryz.f235
noncomputable def Ko (bq:(Condition×Int)→Option Int):Env:=b7 Tryz.prog [(185,(rJ bq))]
noncomputable def Q5 (bq:(Condition×Int)→Option Int)(x:(List Condition)×Int)(r:Int):St→Prop:=QF (Ko bq) Tryz.f235 [false,false] (Dh x) (Di r)
theorem MN (bq:(Condition×Int)→Option Int)(a_1:List Condition)(ar:Int):cj (Ko bq) 0 (Q5 bq (a_1,ar)) (cL (cL (cR (cL (cR (cR (cR Q6))))))) 0 (qH bq a_1 ar) (fun u=>(sT 27 [(1,I u)] [] 1)) fun x3=>(sT 27 [(0,.isl false (a_1.map aE)),(1,I x3.1),(5,I x3.2)] [] 1):=ef (yM bq a_1 ar) fun {Q K} hK self ih x3 y h hr hn=>by
 unfold lb at h
 refine cq 5 [12,13] [I x3.2,.isl false (a_1.map aE)] 33 ?_
 refine oq 49 (I (len a_1)) rfl (bu rfl rfl rfl (bI rfl)) ?_
 refine cq 2 [15] [B (decide (x3.2<(len a_1)))] 65 ?_
 refine sq h ?_ ?_<;>intro h
 ·refine aq 1 ?_
  refine cq 6 [18,19] [.isl false (a_1.map aE),I x3.2] 97 ?_
  obtain⟨e4,he4,h⟩:=bS h
  refine oq 113 (.iptr (bB e4) 0) rfl (aj rfl rfl rfl (bd rfl rfl (dm e4) rfl he4)) ?_
  refine cq 2 [21,22] [bB e4,I x3.1] 145 ?_
  obtain⟨r5,hr5,h⟩:=bS h
  refine oq 161 (I r5) rfl (cm rfl rfl (cU rfl rfl rfl (bC (cg rfl) (bC (cg rfl) dM)) (NS bq hr5) (.inr rfl) ew rfl rfl rfl)) ?_
  refine cq 7 [1,25] [I r5,B (decide (r5<0))] 209 ?_
  refine sq h ?_ ?_<;>intro h
  ·refine cq 4 [4] [I (-1)] 225 ?_
   exact co rfl (hr _ (ak h) _ (qp [I (-1)]))
  ·refine aq 1 ?_
   refine cq 6 [5] [I (ai (x3.2+1))] 257 ?_
   refine cZ ?_
   exact rf [0,1,5] [] (ih _ _ h hr hn :)
 ·refine aq 1 ?_
  exact rf [1] [] (hn _ (ak h) :) (hk:=hK)
theorem Va (bq:(Condition×Int)→Option Int)(a_1:List Condition)(ar:Int)(r:Int)(h:wh bq a_1 ar=some r):bA (Ko bq) Tryz.f235 [false,false] 0 (Dh (a_1,ar)) (Di r):=by
 show Run _ _ (Q5 bq (a_1,ar) r) [.code Q6] _
 refine rI 27 [(0,.isl false (a_1.map aE)),(1,I ar)] [] 1 ?_
 unfold wh at h
 refine cq 8 [6,7] [I ar,.isl false (a_1.map aE)] 49 ?_
 refine oq 65 (I (len a_1)) rfl (bu rfl rfl rfl (bI rfl)) ?_
 refine cq 9 [1,11] [I (ai (ar - (len a_1))),B (decide ((ai (ar - (len a_1)))<0))] 129 ?_
 refine sq h ?_ ?_<;>intro h
 ·refine cq 4 [4] [I (-1)] 145 ?_
  obtain rfl:=Option.some.inj h
  exact rP [I (-1)]
 ·refine aq 1 ?_
  refine cq 6 [5] [I (0)] 145 ?_
  obtain⟨y6,hy6,hy61,hy62⟩:=bJ h
  refine bN rfl ?_
  refine rf [0,1,5] [] (MN bq a_1 ar rfl ((ai (ar - (len a_1))),0) _ hy6 (fun r' e st hq=>by rw[hy61 r' e] at hq;exact hq) fun u6 hu=>?_)
  replace h:=hy62 u6 hu
  refine cq 5 [4] [I u6] 33 ?_
  obtain rfl:=Option.some.inj h
  exact rP [I u6]
theorem Q7 {G:Go.Ln.Ground}(bq:(Condition×Int)→Option Int)(LT:aV Tryz.prog G 185 (rJ bq)):aV Tryz.prog G 235 (AP bq):=gT 2 0 (aM LT bF) ci Tryz.func235 (fun a r h=>Va bq a.1 a.2 r h)
noncomputable def AO:Ent:=rJ (aK pF)
theorem aac {a_1:Condition}{ar:Int}{r}(h:wd a_1 ar=some r):AO.F (we (a_1,ar))=some (wg r):=NS (aK pF) h
noncomputable def aae:Code:=aG Tryz.f185
noncomputable def Q3 (bq:(Condition×Int)→Option Int):Env:=b7 Tryz.prog [(235,(AP bq))]
noncomputable def aad (bq:(Condition×Int)→Option Int)(x:Condition×Int)(r:Int):St→Prop:=QF (Q3 bq) Tryz.f185 [false,false] (we x) (wg r)
theorem U9 (bq:(Condition×Int)→Option Int)(a_1:Condition)(ar:Int)(r:Int)(h:sY bq a_1 ar=some r):bA (Q3 bq) Tryz.f185 [false,false] 0 (we (a_1,ar)) (wg r):=by
 show Run _ _ (aad bq (a_1,ar) r) [.code aae] _
 refine rI 19 [(0,bB a_1),(1,I ar)] [] 1 ?_
 unfold sY at h
 refine ck 20 [1,2,11] [] [1] [] [I (ai (ar - (len a_1.Name))),.hp 1 0 [] 4 0 0,B (decide ((ai (ar - (len a_1.Name)))<0))] [some ⟨0,4,[bB a_1]⟩] 161 (by kernel_rfl) ?_
 refine sq h ?_ ?_<;>intro h
 ·refine cq 4 [4] [I (-1)] 177 ?_
  obtain rfl:=Option.some.inj h
  exact rP [I (-1)]
 ·refine aq 1 ?_
  refine cq 5 [13,14] [.isl false (a_1.Parts.map aE),I (ai (ar - (len a_1.Name)))] 209 ?_
  obtain⟨r3,hr3,h⟩:=bS h
  refine oq 225 (I r3) rfl (cm rfl rfl (cU rfl rfl rfl (bC (cg rfl) (bC (cg rfl) dM)) (aaf bq hr3) (.inr rfl) ew rfl rfl rfl)) ?_
  refine cq 8 [1,17] [I r3,B (decide (r3<0))] 273 ?_
  refine sq h ?_ ?_<;>intro h
  ·refine cq 4 [4] [I (-1)] 289 ?_
   obtain rfl:=Option.some.inj h
   exact rP [I (-1)]
  ·refine aq 1 ?_
   refine cq 5 [4] [I r3] 305 ?_
   obtain rfl:=Option.some.inj h
   exact rP [I r3]
theorem Q4 {G:Go.Ln.Ground}:aV Tryz.prog G 185 AO:=km fun bq LT=>gT 2 0 (aM (Q7 bq LT) bF) ci Tryz.func185 (fun a r h=>U9 bq a.1 a.2 r h)
noncomputable def Dd:(Clause×Int)→List V:=cA au (oA I)
noncomputable def De (r:Int):V×List V:=(I r,[])
noncomputable def AL:Ent:=bm [false,false] Dd De fun x=>uE x.1 x.2
theorem Z8 {a_1:Clause}{ar:Int}{r}(h:uE a_1 ar=some r):AL.F (Dd (a_1,ar))=some (De r):=aI (aU dB (aJ bG)) h
noncomputable def aaa:Code:=aG Tryz.f127
noncomputable def QY:Env:=b7 Tryz.prog [(185,AO)]
noncomputable def Z9 (x:Clause×Int)(r:Int):St→Prop:=QF QY Tryz.f127 [false,false] (Dd x) (De r)
theorem U6 (a_1:Clause)(ar:Int)(r:Int)(h:uE a_1 ar=some r):bA QY Tryz.f127 [false,false] 0 (Dd (a_1,ar)) (De r):=by
 show Run _ _ (Z9 (a_1,ar) r) [.code aaa] _
 refine rI 33 [(0,au a_1),(1,I ar)] [] 1 ?_
 unfold uE at h
 refine ck 20 [1,2,11] [] [1] [] [I (ai (ar - (len a_1.Id))),.hp 1 0 [] 12 0 0,B (decide ((ai (ar - (len a_1.Id)))<0))] [some ⟨0,12,[au a_1]⟩] 161 (by kernel_rfl) ?_
 refine sq h ?_ ?_<;>intro h
 ·refine cq 4 [4] [I (-1)] 177 ?_
  obtain rfl:=Option.some.inj h
  exact rP [I (-1)]
 ·refine aq 1 ?_
  refine cq 15 [1,18] [I (ai ((ai (ar - (len a_1.Id))) - (len a_1.Action))),B (decide ((ai ((ai (ar - (len a_1.Id))) - (len a_1.Action)))<0))] 289 ?_
  refine sq h ?_ ?_<;>intro h
  ·refine cq 4 [4] [I (-1)] 305 ?_
   obtain rfl:=Option.some.inj h
   exact rP [I (-1)]
  ·refine aq 1 ?_
   refine cq 5 [20,21] [bB a_1.When,I (ai ((ai (ar - (len a_1.Id))) - (len a_1.Action)))] 337 ?_
   obtain⟨r3,hr3,h⟩:=bS h
   refine oq 353 (I r3) rfl (cP (aac hr3)) ?_
   refine cq 8 [1,24] [I r3,B (decide (r3<0))] 401 ?_
   refine sq h ?_ ?_<;>intro h
   ·refine cq 4 [4] [I (-1)] 417 ?_
    obtain rfl:=Option.some.inj h
    exact rP [I (-1)]
   ·refine aq 1 ?_
    refine cq 15 [1,31] [I (ai (r3 - (len a_1.Repair))),B (decide ((ai (r3 - (len a_1.Repair)))<0))] 529 ?_
    refine sq h ?_ ?_<;>intro h
    ·refine cq 4 [4] [I (-1)] 545 ?_
     obtain rfl:=Option.some.inj h
     exact rP [I (-1)]
    ·refine aq 1 ?_
     refine cq 5 [4] [I (ai (r3 - (len a_1.Repair)))] 561 ?_
     obtain rfl:=Option.some.inj h
     exact rP [I (ai (r3 - (len a_1.Repair)))]
theorem QZ {G:Go.Ln.Ground}:aV Tryz.prog G 127 AL:=gT 2 0 (aM Q4 bF) ci Tryz.func127 (fun a r h=>U6 a.1 a.2 r h)
noncomputable def Df:((List Clause)×Int)→List V:=cA (fY au) (oA I)
noncomputable def Dg (r:Int):V×List V:=(I r,[])
noncomputable def AN:Ent:=bm [false,false] Df Dg fun x=>AM x.1 x.2
theorem aab {a_1:List Clause}{ar:Int}{r}(h:AM a_1 ar=some r):AN.F (Df (a_1,ar))=some (Dg r):=aI (aU (ce dB) (aJ bG)) h
noncomputable def Q1:Code:=aG Tryz.f61
noncomputable def Kn:Env:=b7 Tryz.prog [(127,AL)]
noncomputable def Q0 (x:(List Clause)×Int)(r:Int):St→Prop:=QF Kn Tryz.f61 [false,false] (Df x) (Dg r)
theorem MM (a_1:List Clause)(ar:Int):cj Kn 0 (Q0 (a_1,ar)) (cL (cL (cR (cL (cR (cR (cR Q1))))))) 0 (sX a_1 ar) (fun u=>(sT 27 [(1,I u)] [] 1)) fun x3=>(sT 27 [(0,.isl false (a_1.map au)),(1,I x3.1),(5,I x3.2)] [] 1):=ef (yL a_1 ar) fun {Q K} hK self ih x3 y h hr hn=>by
 unfold mR at h
 refine cq 5 [12,13] [I x3.2,.isl false (a_1.map au)] 33 ?_
 refine oq 49 (I (len a_1)) rfl (bu rfl rfl rfl (bI rfl)) ?_
 refine cq 2 [15] [B (decide (x3.2<(len a_1)))] 65 ?_
 refine sq h ?_ ?_<;>intro h
 ·refine aq 1 ?_
  refine cq 6 [18,19] [.isl false (a_1.map au),I x3.2] 97 ?_
  obtain⟨e4,he4,h⟩:=bS h
  refine oq 113 (.iptr (au e4) 0) rfl (aj rfl rfl rfl (bd rfl rfl rfl rfl he4)) ?_
  refine cq 2 [21,22] [au e4,I x3.1] 145 ?_
  obtain⟨r5,hr5,h⟩:=bS h
  refine oq 161 (I r5) rfl (cP (Z8 hr5)) ?_
  refine cq 7 [1,25] [I r5,B (decide (r5<0))] 209 ?_
  refine sq h ?_ ?_<;>intro h
  ·refine cq 4 [4] [I (-1)] 225 ?_
   exact co rfl (hr _ (ak h) _ (qp [I (-1)]))
  ·refine aq 1 ?_
   refine cq 6 [5] [I (ai (x3.2+1))] 257 ?_
   refine cZ ?_
   exact rf [0,1,5] [] (ih _ _ h hr hn :)
 ·refine aq 1 ?_
  exact rf [1] [] (hn _ (ak h) :) (hk:=hK)
theorem U7 (a_1:List Clause)(ar:Int)(r:Int)(h:AM a_1 ar=some r):bA Kn Tryz.f61 [false,false] 0 (Df (a_1,ar)) (Dg r):=by
 show Run _ _ (Q0 (a_1,ar) r) [.code Q1] _
 refine rI 27 [(0,.isl false (a_1.map au)),(1,I ar)] [] 1 ?_
 unfold AM at h
 refine cq 8 [6,7] [I ar,.isl false (a_1.map au)] 49 ?_
 refine oq 65 (I (len a_1)) rfl (bu rfl rfl rfl (bI rfl)) ?_
 refine cq 9 [1,11] [I (ai (ar - (len a_1))),B (decide ((ai (ar - (len a_1)))<0))] 129 ?_
 refine sq h ?_ ?_<;>intro h
 ·refine cq 4 [4] [I (-1)] 145 ?_
  obtain rfl:=Option.some.inj h
  exact rP [I (-1)]
 ·refine aq 1 ?_
  refine cq 6 [5] [I (0)] 145 ?_
  obtain⟨y6,hy6,hy61,hy62⟩:=bJ h
  refine bN rfl ?_
  refine rf [0,1,5] [] (MM a_1 ar rfl ((ai (ar - (len a_1))),0) _ hy6 (fun r' e st hq=>by rw[hy61 r' e] at hq;exact hq) fun u6 hu=>?_)
  replace h:=hy62 u6 hu
  refine cq 5 [4] [I u6] 33 ?_
  obtain rfl:=Option.some.inj h
  exact rP [I u6]
theorem Q2 {G:Go.Ln.Ground}:aV Tryz.prog G 61 AN:=gT 2 0 (aM QZ bF) ci Tryz.func61 (fun a r h=>U7 a.1 a.2 r h)
noncomputable def Dj:(Contract×Int)→List V:=cA aX (oA I)
noncomputable def Dk (r:Int):V×List V:=(I r,[])
noncomputable def AR:Ent:=bm [false,false] Dj Dk fun x=>AQ x.1 x.2
theorem aag {a_1:Contract}{ar:Int}{r}(h:AQ a_1 ar=some r):AR.F (Dj (a_1,ar))=some (Dk r):=aI (aU bn (aJ bG)) h
noncomputable def aai:Code:=aG Tryz.f15
noncomputable def Q8:Env:=b7 Tryz.prog [(60,uF),(61,AN)]
noncomputable def aah (x:Contract×Int)(r:Int):St→Prop:=QF Q8 Tryz.f15 [false,false] (Dj x) (Dk r)
theorem Vb (a_1:Contract)(ar:Int)(r:Int)(h:AQ a_1 ar=some r):bA Q8 Tryz.f15 [false,false] 0 (Dj (a_1,ar)) (Dk r):=by
 show Run _ _ (aah (a_1,ar) r) [.code aai] _
 refine rI 18 [(0,aX a_1),(1,I ar)] [] 1 ?_
 unfold AQ at h
 refine ck 10 [2,6,7] [] [1] [] [.hp 1 0 [] 2 0 0,.isl false (a_1.Parties.map str),I ar] [some ⟨0,2,[aX a_1]⟩] 81 (by kernel_rfl) ?_
 obtain⟨r3,hr3,h⟩:=bS h
 refine oq 97 (I r3) rfl (cP (Rh hr3)) ?_
 refine cq 8 [1,10] [I r3,B (decide (r3<0))] 145 ?_
 refine sq h ?_ ?_<;>intro h
 ·refine cq 4 [4] [I (-1)] 161 ?_
  obtain rfl:=Option.some.inj h
  exact rP [I (-1)]
 ·refine aq 1 ?_
  refine cq 5 [12,13] [.isl false (a_1.Clauses.map au),I r3] 193 ?_
  obtain⟨r4,hr4,h⟩:=bS h
  refine oq 209 (I r4) rfl (cP (aab hr4)) ?_
  refine cq 8 [1,16] [I r4,B (decide (r4<0))] 257 ?_
  refine sq h ?_ ?_<;>intro h
  ·refine cq 4 [4] [I (-1)] 273 ?_
   obtain rfl:=Option.some.inj h
   exact rP [I (-1)]
  ·refine aq 1 ?_
   refine cq 5 [4] [I r4] 289 ?_
   obtain rfl:=Option.some.inj h
   exact rP [I r4]
theorem Q9 {G:Go.Ln.Ground}:aV Tryz.prog G 15 AR:=gT 2 0 (aM H5 (aM Q2 bF)) ci Tryz.func15 (fun a r h=>Vb a.1 a.2 r h)
noncomputable def Dl:((List Duty)×Int)→List V:=cA (fY ah) (oA I)
noncomputable def Dm (r:Int):V×List V:=(I r,[])
noncomputable def AV:Ent:=bm [false,false] Dl Dm fun x=>AU x.1 x.2
theorem aaj {a_1:List Duty}{ar:Int}{r}(h:AU a_1 ar=some r):AV.F (Dl (a_1,ar))=some (Dm r):=aI (aU (ce eh) (aJ bG)) h
noncomputable def aal:Code:=aG Tryz.f79
noncomputable def Ra:Env:=b7 Tryz.prog []
noncomputable def aak (x:(List Duty)×Int)(r:Int):St→Prop:=QF Ra Tryz.f79 [false,false] (Dl x) (Dm r)
theorem Vc (a_1:List Duty)(ar:Int)(r:Int)(h:AU a_1 ar=some r):bA Ra Tryz.f79 [false,false] 0 (Dl (a_1,ar)) (Dm r):=by
 show Run _ _ (aak (a_1,ar) r) [.code aal] _
 refine rI 12 [(0,.isl false (a_1.map ah)),(1,I ar)] [] 1 ?_
 unfold AU at h
 refine cq 8 [5,6] [I ar,.isl false (a_1.map ah)] 49 ?_
 refine oq 65 (I (len a_1)) rfl (bu rfl rfl rfl (bI rfl)) ?_
 refine cq 9 [1,10] [I (ai (ar - (len a_1))),B (decide ((ai (ar - (len a_1)))<0))] 129 ?_
 refine sq h ?_ ?_<;>intro h
 ·refine cq 4 [4] [I (-1)] 145 ?_
  obtain rfl:=Option.some.inj h
  exact rP [I (-1)]
 ·refine aq 1 ?_
  refine cq 5 [4] [I (ai (ar - (len a_1)))] 161 ?_
  obtain rfl:=Option.some.inj h
  exact rP [I (ai (ar - (len a_1)))]
theorem Rb {G:Go.Ln.Ground}:aV Tryz.prog G 79 AV:=gT 2 0 bF ci Tryz.func79 (fun a r h=>Vc a.1 a.2 r h)
noncomputable def Dn:((List Int)×Int)→List V:=cA (fY I) (oA I)
noncomputable def Dp (r:Int):V×List V:=(I r,[])
noncomputable def AX:Ent:=bm [false,false] Dn Dp fun x=>AW x.1 x.2
theorem aam {a_1:List Int}{ar:Int}{r}(h:AW a_1 ar=some r):AX.F (Dn (a_1,ar))=some (Dp r):=aI (aU (ce bG) (aJ bG)) h
noncomputable def aao:Code:=aG Tryz.f80
noncomputable def Rc:Env:=b7 Tryz.prog []
noncomputable def aan (x:(List Int)×Int)(r:Int):St→Prop:=QF Rc Tryz.f80 [false,false] (Dn x) (Dp r)
theorem Vd (a_1:List Int)(ar:Int)(r:Int)(h:AW a_1 ar=some r):bA Rc Tryz.f80 [false,false] 0 (Dn (a_1,ar)) (Dp r):=by
 show Run _ _ (aan (a_1,ar) r) [.code aao] _
 refine rI 12 [(0,.isl false (a_1.map I)),(1,I ar)] [] 1 ?_
 unfold AW at h
 refine cq 8 [5,6] [I ar,.isl false (a_1.map I)] 49 ?_
 refine oq 65 (I (len a_1)) rfl (bu rfl rfl rfl (bI rfl)) ?_
 refine cq 9 [1,10] [I (ai (ar - (len a_1))),B (decide ((ai (ar - (len a_1)))<0))] 129 ?_
 refine sq h ?_ ?_<;>intro h
 ·refine cq 4 [4] [I (-1)] 145 ?_
  obtain rfl:=Option.some.inj h
  exact rP [I (-1)]
 ·refine aq 1 ?_
  refine cq 5 [4] [I (ai (ar - (len a_1)))] 161 ?_
  obtain rfl:=Option.some.inj h
  exact rP [I (ai (ar - (len a_1)))]
theorem Re {G:Go.Ln.Ground}:aV Tryz.prog G 80 AX:=gT 2 0 bF ci Tryz.func80 (fun a r h=>Vd a.1 a.2 r h)
noncomputable def Dq:(State×Int)→List V:=cA bK (oA I)
noncomputable def Dr (r:Int):V×List V:=(I r,[])
noncomputable def AZ:Ent:=bm [false,false] Dq Dr fun x=>AY x.1 x.2
theorem aap {a_1:State}{ar:Int}{r}(h:AY a_1 ar=some r):AZ.F (Dq (a_1,ar))=some (Dr r):=aI (aU cd (aJ bG)) h
noncomputable def aar:Code:=aG Tryz.f24
noncomputable def Rf:Env:=b7 Tryz.prog [(60,uF),(79,AV),(80,AX)]
noncomputable def aaq (x:State×Int)(r:Int):St→Prop:=QF Rf Tryz.f24 [false,false] (Dq x) (Dr r)
theorem Ve (a_1:State)(ar:Int)(r:Int)(h:AY a_1 ar=some r):bA Rf Tryz.f24 [false,false] 0 (Dq (a_1,ar)) (Dr r):=by
 show Run _ _ (aaq (a_1,ar) r) [.code aar] _
 refine rI 24 [(0,bK a_1),(1,I ar)] [] 1 ?_
 unfold AY at h
 refine ck 10 [2,6,7] [] [1] [] [.hp 1 0 [] 5 0 0,.isl false (a_1.Facts.map str),I ar] [some ⟨0,5,[bK a_1]⟩] 81 (by kernel_rfl) ?_
 obtain⟨r3,hr3,h⟩:=bS h
 refine oq 97 (I r3) rfl (cP (Rh hr3)) ?_
 refine cq 8 [1,10] [I r3,B (decide (r3<0))] 145 ?_
 refine sq h ?_ ?_<;>intro h
 ·refine cq 4 [4] [I (-1)] 161 ?_
  obtain rfl:=Option.some.inj h
  exact rP [I (-1)]
 ·refine aq 1 ?_
  refine cq 5 [12,13] [.isl false (a_1.Duties.map ah),I r3] 193 ?_
  obtain⟨r4,hr4,h⟩:=bS h
  refine oq 209 (I r4) rfl (cP (aaj hr4)) ?_
  refine cq 8 [1,16] [I r4,B (decide (r4<0))] 257 ?_
  refine sq h ?_ ?_<;>intro h
  ·refine cq 4 [4] [I (-1)] 273 ?_
   obtain rfl:=Option.some.inj h
   exact rP [I (-1)]
  ·refine aq 1 ?_
   refine cq 5 [18,19] [.isl false (a_1.Balances.map I),I r4] 305 ?_
   obtain⟨r5,hr5,h⟩:=bS h
   refine oq 321 (I r5) rfl (cP (aam hr5)) ?_
   refine cq 8 [1,22] [I r5,B (decide (r5<0))] 369 ?_
   refine sq h ?_ ?_<;>intro h
   ·refine cq 4 [4] [I (-1)] 385 ?_
    obtain rfl:=Option.some.inj h
    exact rP [I (-1)]
   ·refine aq 1 ?_
    refine cq 5 [4] [I r5] 401 ?_
    obtain rfl:=Option.some.inj h
    exact rP [I r5]
theorem Rg {G:Go.Ln.Ground}:aV Tryz.prog G 24 AZ:=gT 2 0 (aM H5 (aM Rb (aM Re bF))) ci Tryz.func24 (fun a r h=>Ve a.1 a.2 r h)
noncomputable def DK:(List ac)→List V:=oA (fY str)
noncomputable def DL (r:(List ac)):V×List V:=(.usl 1 (r.map str),[])
noncomputable def uI:Ent:=bm [false] DK DL fun x=>wt x
theorem RH {a_1:List ac}{r}(h:wt a_1=some r):uI.F (DK a_1)=some (DL r):=aI (aJ (ce bQ)) h
noncomputable def RJ:Code:=aG Tryz.f65
noncomputable def Kv:Env:=b7 Tryz.prog []
noncomputable def RI (x:(List ac))(r:(List ac)):St→Prop:=QF Kv Tryz.f65 [false] (DK x) (DL r)
theorem MT (a_1:List ac):cj Kv 0 (RI a_1) (cL (cL (cR (cL (cR (cR RJ)))))) 0 (tg a_1) (fun u=>(sT 22 [(3,.hs 1 0 [] 1 0 (u.map str).length)] [⟨0,1,u.map str⟩] 2)) fun x3=>(sT 22 [(0,.isl false (a_1.map str)),(3,.hs 1 0 [] 1 0 (x3.2.map str).length),(4,I x3.1)] [⟨0,1,x3.2.map str⟩] 2):=ef (yS a_1) fun {Q K} hK self ih x3 y h hr hn=>by
 unfold mW at h
 refine cq 5 [8,9] [I x3.1,.isl false (a_1.map str)] 34 ?_
 refine oq 50 (I (len a_1)) rfl (bu rfl rfl rfl (bI rfl)) ?_
 refine cq 2 [11] [B (decide (x3.1<(len a_1)))] 66 ?_
 refine sq h ?_ ?_<;>intro h
 ·refine aq 1 ?_
  refine cq 7 [14,15,16,17] [.hs 1 0 [] 1 0 (x3.2.map str).length,I x3.1,.isl false (a_1.map str),I x3.1] 130 ?_
  obtain⟨e4,he4,h⟩:=bS h
  refine oq 146 (.iptr (str e4) 0) rfl (aj rfl rfl rfl (bd rfl rfl rfl rfl he4)) ?_
  refine cq 1 [19] [str e4] 162 ?_
  obtain⟨e5,he5,h⟩:=bS h
  refine oq 178 (.hp 1 0 [] 1 (0+Int.toNat x3.1) 0) rfl (aj rfl rfl rfl (dD (f:=str) (xs:=x3.2) rfl rfl rfl he5)) ?_
  refine o0 194 rfl rfl (fQ rfl rfl (eY (path:=[]) (pl:=true) (e':=str e4) (es2':=(cX x3.2 x3.1 e4).map str) rfl (dJ rfl) rfl rfl rfl aW (cS (f:=str) (xs:=x3.2) he5) rfl rfl rfl (iw (f:=str) (xs:=x3.2) (y:=e4)) ey 0 rfl)) ?_
  try rw[←gI (f:=str) (xs:=x3.2) (i:=x3.1) (z:=e4)]
  refine cq 7 [4] [I (ai (x3.1+1))] 242 ?_
  refine cZ ?_
  exact rf [0,3,4] [1] (ih _ _ h hr hn :)
 ·refine aq 1 ?_
  exact rf [3] [1] (hn _ (ak h) :) (hk:=hK)
theorem Vr (a_1:List ac)(r:(List ac))(h:wt a_1=some r):bA Kv Tryz.f65 [false] 0 (DK a_1) (DL r):=by
 show Run _ _ (RI a_1 r) [.code RJ] _
 refine rI 22 [(0,.isl false (a_1.map str))] [] 1 ?_
 unfold wt at h
 refine cq 7 [5] [.isl false (a_1.map str)] 33 ?_
 refine oq 49 (I (len a_1)) rfl (bu rfl rfl rfl (bI rfl)) ?_
 obtain⟨m2,hm2,h⟩:=bS h
 refine oq 65 (.hs 49 0 [] 1 0 (m2.map str).length) rfl (kN rfl rfl (Gt (f:=str) rfl rfl rfl (by decide) hm2 rfl)) ?_
 refine cq 8 [3,4] [.hs 49 0 [] 1 0 (m2.map str).length,I (0)] 97 ?_
 obtain⟨y6,hy6,hy61,hy62⟩:=bJ h
 refine bN rfl ?_
 refine rf [0,3,4] [49] (MT a_1 rfl (0,m2) _ hy6 (fun r' e st hq=>by rw[hy61 r' e] at hq;exact hq) fun u6 hu=>?_)
 replace h:=hy62 u6 hu
 refine cq 5 [2] [.hs 1 0 [] 1 0 (u6.map str).length] 34 ?_
 obtain rfl:=Option.some.inj h
 exact co rfl ⟨_,fin (vs:=[.hs 1 0 [] 1 0 (u6.map str).length]) rfl (gp (gc rfl (dV rfl rfl)) eB) rfl (dj fw),fp⟩
theorem H6 {G:Go.Ln.Ground}:aV Tryz.prog G 65 uI:=gT 1 0 bF ci Tryz.func65 (fun a r h=>Vr a r h)
noncomputable def wl:Condition→List V:=oA bB
noncomputable def wm (r:Condition):V×List V:=(qa r,[])
noncomputable def rK (br:Condition→Option Condition):Ent:=bm [false] wl wm br
theorem NT (br:Condition→Option Condition){x}{r}(h:br x=some r):(rK br).F (wl x)=some (wm r):=aI (aJ dt) h
noncomputable def Dy:(List Condition)→List V:=oA (fY aE)
noncomputable def Dz (r:(List Condition)):V×List V:=(.usl 4 (r.map aC),[])
noncomputable def Ba (br:Condition→Option Condition):Ent:=bm [false] Dy Dz fun x=>wn br x
theorem aaz (br:Condition→Option Condition){a_1:List Condition}{r}(h:wn br a_1=some r):(Ba br).F (Dy a_1)=some (Dz r):=aI (aJ (ce fu)) h
noncomputable def Rs:Code:=aG Tryz.f238
noncomputable def Ks (br:Condition→Option Condition):Env:=b7 Tryz.prog [(192,(rK br))]
noncomputable def Rr (br:Condition→Option Condition)(x:(List Condition))(r:(List Condition)):St→Prop:=QF (Ks br) Tryz.f238 [false] (Dy x) (Dz r)
theorem MQ (br:Condition→Option Condition)(a_1:List Condition):cj (Ks br) 0 (Rr br a_1) (cL (cL (cR (cL (cR (cR Rs)))))) 0 (qI br a_1) (fun u=>(sT 23 [(3,.hs 1 0 [] 4 0 (u.map aC).length)] [⟨0,4,u.map aC⟩] 2)) fun x3=>(sT 23 [(0,.isl false (a_1.map aE)),(3,.hs 1 0 [] 4 0 (x3.2.map aC).length),(4,I x3.1)] [⟨0,4,x3.2.map aC⟩] 2):=ef (yP br a_1) fun {Q K} hK self ih x3 y h hr hn=>by
 unfold lc at h
 refine cq 5 [8,9] [I x3.1,.isl false (a_1.map aE)] 34 ?_
 refine oq 50 (I (len a_1)) rfl (bu rfl rfl rfl (bI rfl)) ?_
 refine cq 2 [11] [B (decide (x3.1<(len a_1)))] 66 ?_
 refine sq h ?_ ?_<;>intro h
 ·refine aq 1 ?_
  refine cq 7 [14,15,16,17] [.hs 1 0 [] 4 0 (x3.2.map aC).length,I x3.1,.isl false (a_1.map aE),I x3.1] 130 ?_
  obtain⟨e4,he4,h⟩:=bS h
  refine oq 146 (.iptr (bB e4) 0) rfl (aj rfl rfl rfl (bd rfl rfl (dm e4) rfl he4)) ?_
  refine cq 1 [19] [bB e4] 162 ?_
  obtain⟨r5,hr5,h⟩:=bS h
  refine oq 178 (.agg [I r5.Op,str r5.Name,I r5.Day,.hs 162 0 [] 4 0 (r5.Parts.map aC).length]) rfl (cm rfl rfl (cU rfl rfl rfl (bC (cg rfl) dM) (NT br hr5) (.inr rfl) ew rfl rfl rfl)) ?_
  obtain⟨e6,he6,h⟩:=bS h
  refine oq 194 (.hp 1 0 [] 4 (0+Int.toNat x3.1) 0) rfl (aj rfl rfl rfl (dD (f:=aC) (xs:=x3.2) rfl rfl rfl he6)) ?_
  refine o0 210 rfl rfl (fQ rfl rfl (eY (path:=[]) (pl:=false) (e':=qa r5) (es2':=(cX x3.2 x3.1 r5).map aC) rfl (oX (cD (cY rfl) (cD (cY rfl) (cD (cY rfl) (cD (dV rfl rfl) oY))))) rfl rfl rfl aW (W1 (f:=aC) (xs:=x3.2) (mg e6) he6) rfl rfl rfl (Xo (f:=aC) (xs:=x3.2) (mg r5)) ey 1 rfl)) ?_
  try rw[←gI (f:=aC) (xs:=x3.2) (i:=x3.1) (z:=r5)]
  refine cq 7 [4] [I (ai (x3.1+1))] 258 ?_
  refine cZ ?_
  exact rf [0,3,4] [1] (ih _ _ h hr hn :)
 ·refine aq 1 ?_
  exact rf [3] [1] (hn _ (ak h) :) (hk:=hK)
theorem Vl (br:Condition→Option Condition)(a_1:List Condition)(r:(List Condition))(h:wn br a_1=some r):bA (Ks br) Tryz.f238 [false] 0 (Dy a_1) (Dz r):=by
 show Run _ _ (Rr br a_1 r) [.code Rs] _
 refine rI 23 [(0,.isl false (a_1.map aE))] [] 1 ?_
 unfold wn at h
 refine cq 7 [5] [.isl false (a_1.map aE)] 33 ?_
 refine oq 49 (I (len a_1)) rfl (bu rfl rfl rfl (bI rfl)) ?_
 obtain⟨m2,hm2,h⟩:=bS h
 refine oq 65 (.hs 49 0 [] 4 0 (m2.map aC).length) rfl (kN rfl rfl (Uc (g:=aC) (f:=fun _=>(.agg [I (0),str ([]),I (0),.isl true []]:V)) (z0:=(Condition.mk 0 [] 0 [])) rfl rfl rfl (by decide) hm2 rfl)) ?_
 refine fI 49 (m2.map aC) rfl rfl (LJ hm2 ((mg _).symm▸gU (aL (.refl _) (aL (.refl _) (aL (.refl _) (aL (.nil _) eL)))))) ?_
 refine cq 8 [3,4] [.hs 49 0 [] 4 0 (m2.map aC).length,I (0)] 97 ?_
 obtain⟨y7,hy7,hy71,hy72⟩:=bJ h
 refine bN rfl ?_
 refine rf [0,3,4] [49] (MQ br a_1 rfl (0,m2) _ hy7 (fun r' e st hq=>by rw[hy71 r' e] at hq;exact hq) fun u7 hu=>?_)
 replace h:=hy72 u7 hu
 refine cq 5 [2] [.hs 1 0 [] 4 0 (u7.map aC).length] 34 ?_
 obtain rfl:=Option.some.inj h
 exact co rfl ⟨_,fin (vs:=[.hs 1 0 [] 4 0 (u7.map aC).length]) rfl (gp (gc rfl (dV rfl rfl)) eB) rfl (dj fw),fp⟩
theorem Rt {G:Go.Ln.Ground}(br:Condition→Option Condition)(LU:aV Tryz.prog G 192 (rK br)):aV Tryz.prog G 238 (Ba br):=gT 1 0 (aM LU bF) ci Tryz.func238 (fun a r h=>Vl br a r h)
noncomputable def A9:Ent:=rK (aK pG)
theorem aaw {a_1:Condition}{r}(h:A8 a_1=some r):A9.F (wl a_1)=some (wm r):=NT (aK pG) h
noncomputable def aay:Code:=aG Tryz.f192
noncomputable def Rp (br:Condition→Option Condition):Env:=b7 Tryz.prog [(238,(Ba br))]
noncomputable def aax (br:Condition→Option Condition)(x:Condition)(r:Condition):St→Prop:=QF (Rp br) Tryz.f192 [false] (wl x) (wm r)
theorem Vk (br:Condition→Option Condition)(a_1:Condition)(r:Condition)(h:tc br a_1=some r):bA (Rp br) Tryz.f192 [false] 0 (wl a_1) (wm r):=by
 show Run _ _ (aax br a_1 r) [.code aay] _
 refine rI 18 [(0,bB a_1)] [] 1 ?_
 unfold tc at h
 refine ck 4 [1,2] [] [1,17] [] [.hp 1 0 [] 4 0 0,.hp 17 0 [] 4 0 0] [some ⟨0,4,[bB a_1]⟩,some ⟨0,4,[.agg [I (0),str ([]),I (0),.isl true []]]⟩] 33 (by kernel_rfl) ?_
 refine fI 17 [.agg [I (0),str ([]),I (0),.usl 4 (([]).map aC)]] rfl rfl (aL (gU (aL (.refl _) (aL (.refl _) (aL (.refl _) (aL (.nil _) eL))))) eL) ?_
 refine ck 4 [3] [] [33] [] [.hp 33 0 [] 4 0 0] [some ⟨0,4,[.agg [I (0),str ([]),I (0),.isl true []]]⟩] 49 (by kernel_rfl) ?_
 refine fI 33 [.agg [I (0),str ([]),I (0),.usl 4 (([]).map aC)]] rfl rfl (aL (gU (aL (.refl _) (aL (.refl _) (aL (.refl _) (aL (.nil _) eL))))) eL) ?_
 refine ck 26 [14] [] [33] [] [.isl false (a_1.Parts.map aE)] [some ⟨1,4,[.agg [I a_1.Op,str a_1.Name,I a_1.Day,.usl 4 (([]).map aC)]]⟩] 273 (by kernel_rfl) ?_
 obtain⟨r2,hr2,h⟩:=bS h
 refine oq 289 (.hs 273 0 [] 4 0 (r2.map aC).length) rfl (cm rfl rfl (cU rfl rfl rfl (bC (cg rfl) dM) (aaz br hr2) (.inr rfl) ew rfl rfl rfl)) ?_
 refine cq 1 [16] [.hp 33 0 [] 4 0 3] 305 ?_
 refine o0 321 rfl rfl (fQ rfl rfl (eY (path:=[]) (pl:=false) (e':=.agg [I a_1.Op,str a_1.Name,I a_1.Day,.usl 4 (r2.map aC)]) (es2':=[.agg [I a_1.Op,str a_1.Name,I a_1.Day,.usl 4 (r2.map aC)]]) rfl (gc rfl (dV rfl rfl)) rfl rfl rfl aW rfl rfl rfl rfl rfl ey 2 rfl)) ?_
 refine cq 4 [17] [.agg [I a_1.Op,str a_1.Name,I a_1.Day,.hs 33 2 [(0,3)] 4 0 (r2.map aC).length]] 337 ?_
 refine o0 353 rfl rfl (fQ rfl rfl (eY (path:=[]) (pl:=false) (e':=.agg [I a_1.Op,str a_1.Name,I a_1.Day,.usl 4 (r2.map aC)]) (es2':=[.agg [I a_1.Op,str a_1.Name,I a_1.Day,.usl 4 (r2.map aC)]]) rfl (oX (cD (cY rfl) (cD (cY rfl) (cD (cY rfl) (cD (iy (path:=[(0,3)]) rfl rfl (gj rfl rfl aW) rfl (oz (path:=[]) (i:=0) (k:=3) (e':=.agg [I a_1.Op,str a_1.Name,I a_1.Day,.dead]) (es2':=[.agg [I a_1.Op,str a_1.Name,I a_1.Day,.dead]]) aW rfl rfl rfl ey)) oY))))) rfl rfl rfl aW rfl rfl rfl rfl rfl ey 2 rfl)) ?_
 refine aq 1 ?_
 obtain rfl:=Option.some.inj h
 exact co rfl ⟨_,fin (vs:=[.agg [I a_1.Op,str a_1.Name,I a_1.Day,.hs 17 2 [(0,3)] 4 0 (r2.map aC).length]]) (Mr (ur rfl rfl rfl) Ms) (gp (oX (cD (cY rfl) (cD (cY rfl) (cD (cY rfl) (cD (iy (path:=[(0,3)]) rfl rfl (gj rfl rfl aW) rfl (oz (path:=[]) (i:=0) (k:=3) (e':=.agg [I a_1.Op,str a_1.Name,I a_1.Day,.dead]) (es2':=[.agg [I a_1.Op,str a_1.Name,I a_1.Day,.dead]]) aW rfl rfl rfl ey)) oY))))) eB) rfl (dj fw),fp⟩
theorem Rq {G:Go.Ln.Ground}:aV Tryz.prog G 192 A9:=km fun br LU=>gT 1 0 (aM (Rt br LU) bF) ci Tryz.func192 (fun a r h=>Vk br a r h)
noncomputable def Du:Clause→List V:=oA au
noncomputable def Dv (r:Clause):V×List V:=(uA r,[])
noncomputable def A5:Ent:=bm [false] Du Dv fun x=>wj x
theorem aas {a_1:Clause}{r}(h:wj a_1=some r):A5.F (Du a_1)=some (Dv r):=aI (aJ dB) h
noncomputable def aau:Code:=aG Tryz.f134
noncomputable def Rk:Env:=b7 Tryz.prog [(192,A9)]
noncomputable def aat (x:Clause)(r:Clause):St→Prop:=QF Rk Tryz.f134 [false] (Du x) (Dv r)
theorem Vg (a_1:Clause)(r:Clause)(h:wj a_1=some r):bA Rk Tryz.f134 [false] 0 (Du a_1) (Dv r):=by
 show Run _ _ (aat a_1 r) [.code aau] _
 refine rI 33 [(0,au a_1)] [] 1 ?_
 unfold wj at h
 refine ck 4 [1,2] [] [1,17] [] [.hp 1 0 [] 12 0 0,.hp 17 0 [] 12 0 0] [some ⟨0,12,[au a_1]⟩,some ⟨0,12,[.agg [str ([]),I (0),I (0),str ([]),I (0),I (0),I (0),str ([]),I (0),.isl true [],I (0),str ([])]]⟩] 33 (by kernel_rfl) ?_
 refine fI 17 [.agg [str ([]),I (0),I (0),str ([]),I (0),I (0),I (0),str ([]),I (0),.usl 4 (([]).map aC),I (0),str ([])]] rfl rfl (aL (gU (aL (.refl _) (aL (.refl _) (aL (.refl _) (aL (.refl _) (aL (.refl _) (aL (.refl _) (aL (.refl _) (aL (.refl _) (aL (.refl _) (aL (.nil _) (aL (.refl _) (aL (.refl _) eL))))))))))))) eL) ?_
 refine ck 4 [3] [] [33] [] [.hp 33 0 [] 12 0 0] [some ⟨0,12,[.agg [str ([]),I (0),I (0),str ([]),I (0),I (0),I (0),str ([]),I (0),.isl true [],I (0),str ([])]]⟩] 49 (by kernel_rfl) ?_
 refine fI 33 [.agg [str ([]),I (0),I (0),str ([]),I (0),I (0),I (0),str ([]),I (0),.usl 4 (([]).map aC),I (0),str ([])]] rfl rfl (aL (gU (aL (.refl _) (aL (.refl _) (aL (.refl _) (aL (.refl _) (aL (.refl _) (aL (.refl _) (aL (.refl _) (aL (.refl _) (aL (.refl _) (aL (.nil _) (aL (.refl _) (aL (.refl _) eL))))))))))))) eL) ?_
 refine ck 47 [23] [] [33] [] [bB a_1.When] [some ⟨1,12,[.agg [str a_1.Id,I a_1.Kind,I a_1.Party,str a_1.Action,I a_1.Other,I a_1.Amount,I (0),str ([]),I (0),.usl 4 (([]).map aC),I (0),str ([])]]⟩] 465 (by kernel_rfl) ?_
 obtain⟨r2,hr2,h⟩:=bS h
 refine oq 481 (.agg [I r2.Op,str r2.Name,I r2.Day,.hs 465 0 [] 4 0 (r2.Parts.map aC).length]) rfl (cP (aaw hr2)) ?_
 refine cq 1 [25] [.hp 33 0 [] 12 0 6] 497 ?_
 refine o0 513 rfl rfl (fQ rfl rfl (eY (path:=[]) (pl:=false) (e':=.agg [str a_1.Id,I a_1.Kind,I a_1.Party,str a_1.Action,I a_1.Other,I a_1.Amount,I r2.Op,str r2.Name,I r2.Day,.usl 4 (r2.Parts.map aC),I (0),str ([])]) (es2':=[.agg [str a_1.Id,I a_1.Kind,I a_1.Party,str a_1.Action,I a_1.Other,I a_1.Amount,I r2.Op,str r2.Name,I r2.Day,.usl 4 (r2.Parts.map aC),I (0),str ([])]]) rfl (oX (cD (cY rfl) (cD (cY rfl) (cD (cY rfl) (cD (dV rfl rfl) oY))))) rfl rfl rfl aW rfl rfl rfl rfl rfl ey 2 rfl)) ?_
 refine ck 18 [32] [] [33] [] [.agg [str a_1.Id,I a_1.Kind,I a_1.Party,str a_1.Action,I a_1.Other,I a_1.Amount,I r2.Op,str r2.Name,I r2.Day,.hs 33 2 [(0,9)] 4 0 (r2.Parts.map aC).length,I a_1.Within,str a_1.Repair]] [some ⟨2,12,[.agg [str a_1.Id,I a_1.Kind,I a_1.Party,str a_1.Action,I a_1.Other,I a_1.Amount,I r2.Op,str r2.Name,I r2.Day,.usl 4 (r2.Parts.map aC),I a_1.Within,str a_1.Repair]]⟩] 657 (by kernel_rfl) ?_
 refine o0 673 rfl rfl (fQ rfl rfl (eY (path:=[]) (pl:=false) (e':=.agg [str a_1.Id,I a_1.Kind,I a_1.Party,str a_1.Action,I a_1.Other,I a_1.Amount,I r2.Op,str r2.Name,I r2.Day,.usl 4 (r2.Parts.map aC),I a_1.Within,str a_1.Repair]) (es2':=[.agg [str a_1.Id,I a_1.Kind,I a_1.Party,str a_1.Action,I a_1.Other,I a_1.Amount,I r2.Op,str r2.Name,I r2.Day,.usl 4 (r2.Parts.map aC),I a_1.Within,str a_1.Repair]]) rfl (oX (cD (cY rfl) (cD (cY rfl) (cD (cY rfl) (cD (cY rfl) (cD (cY rfl) (cD (cY rfl) (cD (cY rfl) (cD (cY rfl) (cD (cY rfl) (cD (iy (path:=[(0,9)]) rfl rfl (gj rfl rfl aW) rfl (oz (path:=[]) (i:=0) (k:=9) (e':=.agg [str a_1.Id,I a_1.Kind,I a_1.Party,str a_1.Action,I a_1.Other,I a_1.Amount,I r2.Op,str r2.Name,I r2.Day,.dead,I a_1.Within,str a_1.Repair]) (es2':=[.agg [str a_1.Id,I a_1.Kind,I a_1.Party,str a_1.Action,I a_1.Other,I a_1.Amount,I r2.Op,str r2.Name,I r2.Day,.dead,I a_1.Within,str a_1.Repair]]) aW rfl rfl rfl ey)) (cD (cY rfl) (cD (cY rfl) oY))))))))))))) rfl rfl rfl aW rfl rfl rfl rfl rfl ey 2 rfl)) ?_
 refine aq 1 ?_
 obtain rfl:=Option.some.inj h
 exact co rfl ⟨_,fin (vs:=[.agg [str a_1.Id,I a_1.Kind,I a_1.Party,str a_1.Action,I a_1.Other,I a_1.Amount,I r2.Op,str r2.Name,I r2.Day,.hs 17 2 [(0,9)] 4 0 (r2.Parts.map aC).length,I a_1.Within,str a_1.Repair]]) (Mr (ur rfl rfl rfl) Ms) (gp (oX (cD (cY rfl) (cD (cY rfl) (cD (cY rfl) (cD (cY rfl) (cD (cY rfl) (cD (cY rfl) (cD (cY rfl) (cD (cY rfl) (cD (cY rfl) (cD (iy (path:=[(0,9)]) rfl rfl (gj rfl rfl aW) rfl (oz (path:=[]) (i:=0) (k:=9) (e':=.agg [str a_1.Id,I a_1.Kind,I a_1.Party,str a_1.Action,I a_1.Other,I a_1.Amount,I r2.Op,str r2.Name,I r2.Day,.dead,I a_1.Within,str a_1.Repair]) (es2':=[.agg [str a_1.Id,I a_1.Kind,I a_1.Party,str a_1.Action,I a_1.Other,I a_1.Amount,I r2.Op,str r2.Name,I r2.Day,.dead,I a_1.Within,str a_1.Repair]]) aW rfl rfl rfl ey)) (cD (cY rfl) (cD (cY rfl) oY))))))))))))) eB) rfl (dj fw),fp⟩
theorem Rl {G:Go.Ln.Ground}:aV Tryz.prog G 134 A5:=gT 1 0 (aM Rq bF) ci Tryz.func134 (fun a r h=>Vg a r h)
noncomputable def Dw:(List Clause)→List V:=oA (fY au)
noncomputable def Dx (r:(List Clause)):V×List V:=(.usl 12 (r.map ba),[])
noncomputable def A7:Ent:=bm [false] Dw Dx fun x=>A6 x
theorem aav {a_1:List Clause}{r}(h:A6 a_1=some r):A7.F (Dw a_1)=some (Dx r):=aI (aJ (ce dB)) h
noncomputable def Rn:Code:=aG Tryz.f66
noncomputable def Kr:Env:=b7 Tryz.prog [(134,A5)]
noncomputable def Rm (x:(List Clause))(r:(List Clause)):St→Prop:=QF Kr Tryz.f66 [false] (Dw x) (Dx r)
theorem MP (a_1:List Clause):cj Kr 0 (Rm a_1) (cL (cL (cR (cL (cR (cR Rn)))))) 0 (ta a_1) (fun u=>(sT 23 [(3,.hs 1 0 [] 12 0 (u.map ba).length)] [⟨0,12,u.map ba⟩] 2)) fun x3=>(sT 23 [(0,.isl false (a_1.map au)),(3,.hs 1 0 [] 12 0 (x3.2.map ba).length),(4,I x3.1)] [⟨0,12,x3.2.map ba⟩] 2):=ef (yO a_1) fun {Q K} hK self ih x3 y h hr hn=>by
 unfold mT at h
 refine cq 5 [8,9] [I x3.1,.isl false (a_1.map au)] 34 ?_
 refine oq 50 (I (len a_1)) rfl (bu rfl rfl rfl (bI rfl)) ?_
 refine cq 2 [11] [B (decide (x3.1<(len a_1)))] 66 ?_
 refine sq h ?_ ?_<;>intro h
 ·refine aq 1 ?_
  refine cq 7 [14,15,16,17] [.hs 1 0 [] 12 0 (x3.2.map ba).length,I x3.1,.isl false (a_1.map au),I x3.1] 130 ?_
  obtain⟨e4,he4,h⟩:=bS h
  refine oq 146 (.iptr (au e4) 0) rfl (aj rfl rfl rfl (bd rfl rfl rfl rfl he4)) ?_
  refine cq 1 [19] [au e4] 162 ?_
  obtain⟨r5,hr5,h⟩:=bS h
  refine oq 178 (.agg [str r5.Id,I r5.Kind,I r5.Party,str r5.Action,I r5.Other,I r5.Amount,I r5.When.Op,str r5.When.Name,I r5.When.Day,.hs 162 0 [] 4 0 (r5.When.Parts.map aC).length,I r5.Within,str r5.Repair]) rfl (cP (aas hr5)) ?_
  obtain⟨e6,he6,h⟩:=bS h
  refine oq 194 (.hp 1 0 [] 12 (0+Int.toNat x3.1) 0) rfl (aj rfl rfl rfl (dD (f:=ba) (xs:=x3.2) rfl rfl rfl he6)) ?_
  refine o0 210 rfl rfl (fQ rfl rfl (eY (path:=[]) (pl:=false) (e':=uA r5) (es2':=(cX x3.2 x3.1 r5).map ba) rfl (oX (cD (cY rfl) (cD (cY rfl) (cD (cY rfl) (cD (cY rfl) (cD (cY rfl) (cD (cY rfl) (cD (cY rfl) (cD (cY rfl) (cD (cY rfl) (cD (dV rfl rfl) (cD (cY rfl) (cD (cY rfl) oY))))))))))))) rfl rfl rfl aW (cS (f:=ba) (xs:=x3.2) he6) rfl rfl rfl (iw (f:=ba) (xs:=x3.2) (y:=r5)) ey 1 rfl)) ?_
  try rw[←gI (f:=ba) (xs:=x3.2) (i:=x3.1) (z:=r5)]
  refine cq 7 [4] [I (ai (x3.1+1))] 258 ?_
  refine cZ ?_
  exact rf [0,3,4] [1] (ih _ _ h hr hn :)
 ·refine aq 1 ?_
  exact rf [3] [1] (hn _ (ak h) :) (hk:=hK)
theorem Vi (a_1:List Clause)(r:(List Clause))(h:A6 a_1=some r):bA Kr Tryz.f66 [false] 0 (Dw a_1) (Dx r):=by
 show Run _ _ (Rm a_1 r) [.code Rn] _
 refine rI 23 [(0,.isl false (a_1.map au))] [] 1 ?_
 unfold A6 at h
 refine cq 7 [5] [.isl false (a_1.map au)] 33 ?_
 refine oq 49 (I (len a_1)) rfl (bu rfl rfl rfl (bI rfl)) ?_
 obtain⟨m2,hm2,h⟩:=bS h
 refine oq 65 (.hs 49 0 [] 12 0 (m2.map ba).length) rfl (kN rfl rfl (Uc (g:=ba) (f:=fun _=>(.agg [str ([]),I (0),I (0),str ([]),I (0),I (0),I (0),str ([]),I (0),.isl true [],I (0),str ([])]:V)) (z0:=(Clause.mk [] 0 0 [] 0 0 (Condition.mk 0 [] 0 []) 0 [])) rfl rfl rfl (by decide) hm2 rfl)) ?_
 refine fI 49 (m2.map ba) rfl rfl (LJ hm2 (gU (aL (.refl _) (aL (.refl _) (aL (.refl _) (aL (.refl _) (aL (.refl _) (aL (.refl _) (aL (.refl _) (aL (.refl _) (aL (.refl _) (aL (.nil _) (aL (.refl _) (aL (.refl _) eL)))))))))))))) ?_
 refine cq 8 [3,4] [.hs 49 0 [] 12 0 (m2.map ba).length,I (0)] 97 ?_
 obtain⟨y7,hy7,hy71,hy72⟩:=bJ h
 refine bN rfl ?_
 refine rf [0,3,4] [49] (MP a_1 rfl (0,m2) _ hy7 (fun r' e st hq=>by rw[hy71 r' e] at hq;exact hq) fun u7 hu=>?_)
 replace h:=hy72 u7 hu
 refine cq 5 [2] [.hs 1 0 [] 12 0 (u7.map ba).length] 34 ?_
 obtain rfl:=Option.some.inj h
 exact co rfl ⟨_,fin (vs:=[.hs 1 0 [] 12 0 (u7.map ba).length]) rfl (gp (gc rfl (dV rfl rfl)) eB) rfl (dj fw),fp⟩
theorem Ro {G:Go.Ln.Ground}:aV Tryz.prog G 66 A7:=gT 1 0 (aM Rl bF) ci Tryz.func66 (fun a r h=>Vi a r h)
noncomputable def DA:Contract→List V:=oA aX
noncomputable def DB (r:Contract):V×List V:=(.agg [.usl 1 (r.Parties.map str),.usl 12 (r.Clauses.map ba)],[])
noncomputable def Bb:Ent:=bm [false] DA DB fun x=>uG x
theorem wo {a_1:Contract}{r}(h:uG a_1=some r):Bb.F (DA a_1)=some (DB r):=aI (aJ bn) h
noncomputable def aaB:Code:=aG Tryz.f17
noncomputable def Ru:Env:=b7 Tryz.prog [(65,uI),(66,A7)]
noncomputable def aaA (x:Contract)(r:Contract):St→Prop:=QF Ru Tryz.f17 [false] (DA x) (DB r)
theorem Vm (a_1:Contract)(r:Contract)(h:uG a_1=some r):bA Ru Tryz.f17 [false] 0 (DA a_1) (DB r):=by
 show Run _ _ (aaA a_1 r) [.code aaB] _
 refine rI 13 [(0,aX a_1)] [] 1 ?_
 unfold uG at h
 refine ck 4 [1,2] [] [1,17] [] [.hp 1 0 [] 2 0 0,.hp 17 0 [] 2 0 0] [some ⟨0,2,[aX a_1]⟩,some ⟨0,2,[.agg [.isl true [],.isl true []]]⟩] 33 (by kernel_rfl) ?_
 refine fI 17 [.agg [.usl 1 (([]).map str),.usl 12 (([]).map ba)]] rfl rfl (aL (gU (aL (.nil _) (aL (.nil _) eL))) eL) ?_
 refine ck 4 [3] [] [33] [] [.hp 33 0 [] 2 0 0] [some ⟨0,2,[.agg [.isl true [],.isl true []]]⟩] 49 (by kernel_rfl) ?_
 refine fI 33 [.agg [.usl 1 (([]).map str),.usl 12 (([]).map ba)]] rfl rfl (aL (gU (aL (.nil _) (aL (.nil _) eL))) eL) ?_
 refine cq 5 [5] [.isl false (a_1.Parties.map str)] 81 ?_
 obtain⟨r2,hr2,h⟩:=bS h
 refine oq 97 (.hs 81 0 [] 1 0 (r2.map str).length) rfl (cP (RH hr2)) ?_
 refine cq 1 [7] [.hp 33 0 [] 2 0 0] 113 ?_
 refine o0 129 rfl rfl (fQ rfl rfl (eY (path:=[]) (pl:=false) (e':=.agg [.usl 1 (r2.map str),.usl 12 (([]).map ba)]) (es2':=[.agg [.usl 1 (r2.map str),.usl 12 (([]).map ba)]]) rfl (gc rfl (dV rfl rfl)) rfl rfl rfl aW rfl rfl rfl rfl rfl ey 2 rfl)) ?_
 refine cq 5 [9] [.isl false (a_1.Clauses.map au)] 161 ?_
 obtain⟨r3,hr3,h⟩:=bS h
 refine oq 177 (.hs 161 0 [] 12 0 (r3.map ba).length) rfl (cP (aav hr3)) ?_
 refine cq 1 [11] [.hp 33 0 [] 2 0 1] 193 ?_
 refine o0 209 rfl rfl (fQ rfl rfl (eY (path:=[]) (pl:=false) (e':=.agg [.usl 1 (r2.map str),.usl 12 (r3.map ba)]) (es2':=[.agg [.usl 1 (r2.map str),.usl 12 (r3.map ba)]]) rfl (gc rfl (dV rfl rfl)) rfl rfl rfl aW rfl rfl rfl rfl rfl ey 3 rfl)) ?_
 refine cq 4 [12] [.agg [.hs 33 3 [(0,0)] 1 0 (r2.map str).length,.hs 33 3 [(0,1)] 12 0 (r3.map ba).length]] 225 ?_
 refine o0 241 rfl rfl (fQ rfl rfl (eY (path:=[]) (pl:=false) (e':=.agg [.usl 1 (r2.map str),.usl 12 (r3.map ba)]) (es2':=[.agg [.usl 1 (r2.map str),.usl 12 (r3.map ba)]]) rfl (oX (cD (iy (path:=[(0,0)]) rfl rfl (gj rfl rfl aW) rfl (oz (path:=[]) (i:=0) (k:=0) (e':=.agg [.dead,.usl 12 (r3.map ba)]) (es2':=[.agg [.dead,.usl 12 (r3.map ba)]]) aW rfl rfl rfl ey)) (cD (iy (path:=[(0,1)]) rfl rfl (gj rfl rfl aW) rfl (oz (path:=[]) (i:=0) (k:=1) (e':=.agg [.dead,.dead]) (es2':=[.agg [.dead,.dead]]) aW rfl rfl rfl ey)) oY))) rfl rfl rfl aW rfl rfl rfl rfl rfl ey 2 rfl)) ?_
 refine aq 1 ?_
 obtain rfl:=Option.some.inj h
 exact co rfl ⟨_,fin (vs:=[.agg [.hs 17 2 [(0,0)] 1 0 (r2.map str).length,.hs 17 2 [(0,1)] 12 0 (r3.map ba).length]]) (Mr (ur rfl rfl rfl) Ms) (gp (oX (cD (iy (path:=[(0,0)]) rfl rfl (gj rfl rfl aW) rfl (oz (path:=[]) (i:=0) (k:=0) (e':=.agg [.dead,.usl 12 (r3.map ba)]) (es2':=[.agg [.dead,.usl 12 (r3.map ba)]]) aW rfl rfl rfl ey)) (cD (iy (path:=[(0,1)]) rfl rfl (gj rfl rfl aW) rfl (oz (path:=[]) (i:=0) (k:=1) (e':=.agg [.dead,.dead]) (es2':=[.agg [.dead,.dead]]) aW rfl rfl rfl ey)) oY))) eB) rfl (dj fw),fp⟩
theorem Rv {G:Go.Ln.Ground}:aV Tryz.prog G 17 Bb:=gT 1 0 (aM H6 (aM Ro bF)) ci Tryz.func17 (fun a r h=>Vm a r h)
noncomputable def DC:Duty→List V:=oA ah
noncomputable def DD (r:Duty):V×List V:=(ah r,[])
noncomputable def Bc:Ent:=bm [false] DC DD fun x=>wq x
theorem aaC {a_1:Duty}{r}(h:wq a_1=some r):Bc.F (DC a_1)=some (DD r):=aI (aJ eh) h
noncomputable def aaE:Code:=aG Tryz.f148
noncomputable def Rx:Env:=b7 Tryz.prog []
noncomputable def aaD (x:Duty)(r:Duty):St→Prop:=QF Rx Tryz.f148 [false] (DC x) (DD r)
theorem Vn (a_1:Duty)(r:Duty)(h:wq a_1=some r):bA Rx Tryz.f148 [false] 0 (DC a_1) (DD r):=by
 show Run _ _ (aaD a_1 r) [.code aaE] _
 refine rI 17 [(0,ah a_1)] [] 1 ?_
 unfold wq at h
 refine ck 42 [2] [] [17] [] [.hp 17 0 [] 4 0 0] [some ⟨0,4,[ah a_1]⟩] 337 (by kernel_rfl) ?_
 obtain rfl:=Option.some.inj h
 exact co rfl ⟨_,fin (vs:=[ah a_1]) (Mr (ur rfl rfl rfl) Ms) (gp (dJ rfl) eB) rfl (dj fw),fp⟩
theorem Ry {G:Go.Ln.Ground}:aV Tryz.prog G 148 Bc:=gT 1 0 bF ci Tryz.func148 (fun a r h=>Vn a r h)
noncomputable def DE:(List Duty)→List V:=oA (fY ah)
noncomputable def DF (r:(List Duty)):V×List V:=(.usl 4 (r.map ah),[])
noncomputable def Be:Ent:=bm [false] DE DF fun x=>Bd x
theorem aaF {a_1:List Duty}{r}(h:Bd a_1=some r):Be.F (DE a_1)=some (DF r):=aI (aJ (ce eh)) h
noncomputable def RA:Code:=aG Tryz.f83
noncomputable def Kt:Env:=b7 Tryz.prog [(148,Bc)]
noncomputable def Rz (x:(List Duty))(r:(List Duty)):St→Prop:=QF Kt Tryz.f83 [false] (DE x) (DF r)
theorem MR (a_1:List Duty):cj Kt 0 (Rz a_1) (cL (cL (cR (cL (cR (cR RA)))))) 0 (te a_1) (fun u=>(sT 23 [(3,.hs 1 0 [] 4 0 (u.map ah).length)] [⟨0,4,u.map ah⟩] 2)) fun x3=>(sT 23 [(0,.isl false (a_1.map ah)),(3,.hs 1 0 [] 4 0 (x3.2.map ah).length),(4,I x3.1)] [⟨0,4,x3.2.map ah⟩] 2):=ef (yQ a_1) fun {Q K} hK self ih x3 y h hr hn=>by
 unfold mU at h
 refine cq 5 [8,9] [I x3.1,.isl false (a_1.map ah)] 34 ?_
 refine oq 50 (I (len a_1)) rfl (bu rfl rfl rfl (bI rfl)) ?_
 refine cq 2 [11] [B (decide (x3.1<(len a_1)))] 66 ?_
 refine sq h ?_ ?_<;>intro h
 ·refine aq 1 ?_
  refine cq 7 [14,15,16,17] [.hs 1 0 [] 4 0 (x3.2.map ah).length,I x3.1,.isl false (a_1.map ah),I x3.1] 130 ?_
  obtain⟨e4,he4,h⟩:=bS h
  refine oq 146 (.iptr (ah e4) 0) rfl (aj rfl rfl rfl (bd rfl rfl rfl rfl he4)) ?_
  refine cq 1 [19] [ah e4] 162 ?_
  obtain⟨r5,hr5,h⟩:=bS h
  refine oq 178 (ah r5) rfl (cP (aaC hr5)) ?_
  obtain⟨e6,he6,h⟩:=bS h
  refine oq 194 (.hp 1 0 [] 4 (0+Int.toNat x3.1) 0) rfl (aj rfl rfl rfl (dD (f:=ah) (xs:=x3.2) rfl rfl rfl he6)) ?_
  refine o0 210 rfl rfl (fQ rfl rfl (eY (path:=[]) (pl:=true) (e':=ah r5) (es2':=(cX x3.2 x3.1 r5).map ah) rfl (dJ rfl) rfl rfl rfl aW (cS (f:=ah) (xs:=x3.2) he6) rfl rfl rfl (iw (f:=ah) (xs:=x3.2) (y:=r5)) ey 0 rfl)) ?_
  try rw[←gI (f:=ah) (xs:=x3.2) (i:=x3.1) (z:=r5)]
  refine cq 7 [4] [I (ai (x3.1+1))] 258 ?_
  refine cZ ?_
  exact rf [0,3,4] [1] (ih _ _ h hr hn :)
 ·refine aq 1 ?_
  exact rf [3] [1] (hn _ (ak h) :) (hk:=hK)
theorem Vo (a_1:List Duty)(r:(List Duty))(h:Bd a_1=some r):bA Kt Tryz.f83 [false] 0 (DE a_1) (DF r):=by
 show Run _ _ (Rz a_1 r) [.code RA] _
 refine rI 23 [(0,.isl false (a_1.map ah))] [] 1 ?_
 unfold Bd at h
 refine cq 7 [5] [.isl false (a_1.map ah)] 33 ?_
 refine oq 49 (I (len a_1)) rfl (bu rfl rfl rfl (bI rfl)) ?_
 obtain⟨m2,hm2,h⟩:=bS h
 refine oq 65 (.hs 49 0 [] 4 0 (m2.map ah).length) rfl (kN rfl rfl (Gt (f:=ah) rfl rfl rfl (by decide) hm2 rfl)) ?_
 refine cq 8 [3,4] [.hs 49 0 [] 4 0 (m2.map ah).length,I (0)] 97 ?_
 obtain⟨y7,hy7,hy71,hy72⟩:=bJ h
 refine bN rfl ?_
 refine rf [0,3,4] [49] (MR a_1 rfl (0,m2) _ hy7 (fun r' e st hq=>by rw[hy71 r' e] at hq;exact hq) fun u7 hu=>?_)
 replace h:=hy72 u7 hu
 refine cq 5 [2] [.hs 1 0 [] 4 0 (u7.map ah).length] 34 ?_
 obtain rfl:=Option.some.inj h
 exact co rfl ⟨_,fin (vs:=[.hs 1 0 [] 4 0 (u7.map ah).length]) rfl (gp (gc rfl (dV rfl rfl)) eB) rfl (dj fw),fp⟩
theorem RB {G:Go.Ln.Ground}:aV Tryz.prog G 83 Be:=gT 1 0 (aM Ry bF) ci Tryz.func83 (fun a r h=>Vo a r h)
noncomputable def DG:(List Int)→List V:=oA (fY I)
noncomputable def DH (r:(List Int)):V×List V:=(.usl 1 (r.map I),[])
noncomputable def Bg:Ent:=bm [false] DG DH fun x=>Bf x
theorem aaG {a_1:List Int}{r}(h:Bf a_1=some r):Bg.F (DG a_1)=some (DH r):=aI (aJ (ce bG)) h
noncomputable def RD:Code:=aG Tryz.f84
noncomputable def Ku:Env:=b7 Tryz.prog []
noncomputable def RC (x:(List Int))(r:(List Int)):St→Prop:=QF Ku Tryz.f84 [false] (DG x) (DH r)
theorem MS (a_1:List Int):cj Ku 0 (RC a_1) (cL (cL (cR (cL (cR (cR RD)))))) 0 (tf a_1) (fun u=>(sT 22 [(3,.hs 1 0 [] 1 0 (u.map I).length)] [⟨0,1,u.map I⟩] 2)) fun x3=>(sT 22 [(0,.isl false (a_1.map I)),(3,.hs 1 0 [] 1 0 (x3.2.map I).length),(4,I x3.1)] [⟨0,1,x3.2.map I⟩] 2):=ef (yR a_1) fun {Q K} hK self ih x3 y h hr hn=>by
 unfold mV at h
 refine cq 5 [8,9] [I x3.1,.isl false (a_1.map I)] 34 ?_
 refine oq 50 (I (len a_1)) rfl (bu rfl rfl rfl (bI rfl)) ?_
 refine cq 2 [11] [B (decide (x3.1<(len a_1)))] 66 ?_
 refine sq h ?_ ?_<;>intro h
 ·refine aq 1 ?_
  refine cq 7 [14,15,16,17] [.hs 1 0 [] 1 0 (x3.2.map I).length,I x3.1,.isl false (a_1.map I),I x3.1] 130 ?_
  obtain⟨e4,he4,h⟩:=bS h
  refine oq 146 (.iptr (I e4) 0) rfl (aj rfl rfl rfl (bd rfl rfl rfl rfl he4)) ?_
  refine cq 1 [19] [I e4] 162 ?_
  obtain⟨e5,he5,h⟩:=bS h
  refine oq 178 (.hp 1 0 [] 1 (0+Int.toNat x3.1) 0) rfl (aj rfl rfl rfl (dD (f:=I) (xs:=x3.2) rfl rfl rfl he5)) ?_
  refine o0 194 rfl rfl (fQ rfl rfl (eY (path:=[]) (pl:=true) (e':=I e4) (es2':=(cX x3.2 x3.1 e4).map I) rfl (dJ rfl) rfl rfl rfl aW (cS (f:=I) (xs:=x3.2) he5) rfl rfl rfl (iw (f:=I) (xs:=x3.2) (y:=e4)) ey 0 rfl)) ?_
  try rw[←gI (f:=I) (xs:=x3.2) (i:=x3.1) (z:=e4)]
  refine cq 7 [4] [I (ai (x3.1+1))] 242 ?_
  refine cZ ?_
  exact rf [0,3,4] [1] (ih _ _ h hr hn :)
 ·refine aq 1 ?_
  exact rf [3] [1] (hn _ (ak h) :) (hk:=hK)
theorem Vp (a_1:List Int)(r:(List Int))(h:Bf a_1=some r):bA Ku Tryz.f84 [false] 0 (DG a_1) (DH r):=by
 show Run _ _ (RC a_1 r) [.code RD] _
 refine rI 22 [(0,.isl false (a_1.map I))] [] 1 ?_
 unfold Bf at h
 refine cq 7 [5] [.isl false (a_1.map I)] 33 ?_
 refine oq 49 (I (len a_1)) rfl (bu rfl rfl rfl (bI rfl)) ?_
 obtain⟨m2,hm2,h⟩:=bS h
 refine oq 65 (.hs 49 0 [] 1 0 (m2.map I).length) rfl (kN rfl rfl (Gt (f:=I) rfl rfl rfl (by decide) hm2 rfl)) ?_
 refine cq 8 [3,4] [.hs 49 0 [] 1 0 (m2.map I).length,I (0)] 97 ?_
 obtain⟨y6,hy6,hy61,hy62⟩:=bJ h
 refine bN rfl ?_
 refine rf [0,3,4] [49] (MS a_1 rfl (0,m2) _ hy6 (fun r' e st hq=>by rw[hy61 r' e] at hq;exact hq) fun u6 hu=>?_)
 replace h:=hy62 u6 hu
 refine cq 5 [2] [.hs 1 0 [] 1 0 (u6.map I).length] 34 ?_
 obtain rfl:=Option.some.inj h
 exact co rfl ⟨_,fin (vs:=[.hs 1 0 [] 1 0 (u6.map I).length]) rfl (gp (gc rfl (dV rfl rfl)) eB) rfl (dj fw),fp⟩
theorem RE {G:Go.Ln.Ground}:aV Tryz.prog G 84 Bg:=gT 1 0 bF ci Tryz.func84 (fun a r h=>Vp a r h)
noncomputable def DI:State→List V:=oA bK
noncomputable def DJ (r:State):V×List V:=(.agg [I r.Day,.usl 1 (r.Facts.map str),.usl 4 (r.Duties.map ah),.usl 1 (r.Balances.map I),B r.Over],[])
noncomputable def Bh:Ent:=bm [false] DI DJ fun x=>uH x
theorem wr {a_1:State}{r}(h:uH a_1=some r):Bh.F (DI a_1)=some (DJ r):=aI (aJ cd) h
noncomputable def aaI:Code:=aG Tryz.f26
noncomputable def RF:Env:=b7 Tryz.prog [(65,uI),(83,Be),(84,Bg)]
noncomputable def aaH (x:State)(r:State):St→Prop:=QF RF Tryz.f26 [false] (DI x) (DJ r)
theorem Vq (a_1:State)(r:State)(h:uH a_1=some r):bA RF Tryz.f26 [false] 0 (DI a_1) (DJ r):=by
 show Run _ _ (aaH a_1 r) [.code aaI] _
 refine rI 23 [(0,bK a_1)] [] 1 ?_
 unfold uH at h
 refine ck 4 [1,2] [] [1,17] [] [.hp 1 0 [] 5 0 0,.hp 17 0 [] 5 0 0] [some ⟨0,5,[bK a_1]⟩,some ⟨0,5,[.agg [I (0),.isl true [],.isl true [],.isl true [],B false]]⟩] 33 (by kernel_rfl) ?_
 refine fI 17 [.agg [I (0),.usl 1 (([]).map str),.usl 4 (([]).map ah),.usl 1 (([]).map I),B false]] rfl rfl (aL (gU (aL (.refl _) (aL (.nil _) (aL (.nil _) (aL (.nil _) (aL (.refl _) eL)))))) eL) ?_
 refine ck 4 [3] [] [33] [] [.hp 33 0 [] 5 0 0] [some ⟨0,5,[.agg [I (0),.isl true [],.isl true [],.isl true [],B false]]⟩] 49 (by kernel_rfl) ?_
 refine fI 33 [.agg [I (0),.usl 1 (([]).map str),.usl 4 (([]).map ah),.usl 1 (([]).map I),B false]] rfl rfl (aL (gU (aL (.refl _) (aL (.nil _) (aL (.nil _) (aL (.nil _) (aL (.refl _) eL)))))) eL) ?_
 refine ck 12 [8] [] [33] [] [.isl false (a_1.Facts.map str)] [some ⟨1,5,[.agg [I a_1.Day,.usl 1 (([]).map str),.usl 4 (([]).map ah),.usl 1 (([]).map I),B false]]⟩] 145 (by kernel_rfl) ?_
 obtain⟨r2,hr2,h⟩:=bS h
 refine oq 161 (.hs 145 0 [] 1 0 (r2.map str).length) rfl (cP (RH hr2)) ?_
 refine cq 1 [10] [.hp 33 0 [] 5 0 1] 177 ?_
 refine o0 193 rfl rfl (fQ rfl rfl (eY (path:=[]) (pl:=false) (e':=.agg [I a_1.Day,.usl 1 (r2.map str),.usl 4 (([]).map ah),.usl 1 (([]).map I),B false]) (es2':=[.agg [I a_1.Day,.usl 1 (r2.map str),.usl 4 (([]).map ah),.usl 1 (([]).map I),B false]]) rfl (gc rfl (dV rfl rfl)) rfl rfl rfl aW rfl rfl rfl rfl rfl ey 2 rfl)) ?_
 refine cq 5 [12] [.isl false (a_1.Duties.map ah)] 225 ?_
 obtain⟨r3,hr3,h⟩:=bS h
 refine oq 241 (.hs 225 0 [] 4 0 (r3.map ah).length) rfl (cP (aaF hr3)) ?_
 refine cq 1 [14] [.hp 33 0 [] 5 0 2] 257 ?_
 refine o0 273 rfl rfl (fQ rfl rfl (eY (path:=[]) (pl:=false) (e':=.agg [I a_1.Day,.usl 1 (r2.map str),.usl 4 (r3.map ah),.usl 1 (([]).map I),B false]) (es2':=[.agg [I a_1.Day,.usl 1 (r2.map str),.usl 4 (r3.map ah),.usl 1 (([]).map I),B false]]) rfl (gc rfl (dV rfl rfl)) rfl rfl rfl aW rfl rfl rfl rfl rfl ey 3 rfl)) ?_
 refine cq 5 [16] [.isl false (a_1.Balances.map I)] 305 ?_
 obtain⟨r4,hr4,h⟩:=bS h
 refine oq 321 (.hs 305 0 [] 1 0 (r4.map I).length) rfl (cP (aaG hr4)) ?_
 refine cq 1 [18] [.hp 33 0 [] 5 0 3] 337 ?_
 refine o0 353 rfl rfl (fQ rfl rfl (eY (path:=[]) (pl:=false) (e':=.agg [I a_1.Day,.usl 1 (r2.map str),.usl 4 (r3.map ah),.usl 1 (r4.map I),B false]) (es2':=[.agg [I a_1.Day,.usl 1 (r2.map str),.usl 4 (r3.map ah),.usl 1 (r4.map I),B false]]) rfl (gc rfl (dV rfl rfl)) rfl rfl rfl aW rfl rfl rfl rfl rfl ey 4 rfl)) ?_
 refine ck 11 [22] [] [33] [] [.agg [I a_1.Day,.hs 33 4 [(0,1)] 1 0 (r2.map str).length,.hs 33 4 [(0,2)] 4 0 (r3.map ah).length,.hs 33 4 [(0,3)] 1 0 (r4.map I).length,B a_1.Over]] [some ⟨4,5,[.agg [I a_1.Day,.usl 1 (r2.map str),.usl 4 (r3.map ah),.usl 1 (r4.map I),B a_1.Over]]⟩] 433 (by kernel_rfl) ?_
 refine o0 449 rfl rfl (fQ rfl rfl (eY (path:=[]) (pl:=false) (e':=.agg [I a_1.Day,.usl 1 (r2.map str),.usl 4 (r3.map ah),.usl 1 (r4.map I),B a_1.Over]) (es2':=[.agg [I a_1.Day,.usl 1 (r2.map str),.usl 4 (r3.map ah),.usl 1 (r4.map I),B a_1.Over]]) rfl (oX (cD (cY rfl) (cD (iy (path:=[(0,1)]) rfl rfl (gj rfl rfl aW) rfl (oz (path:=[]) (i:=0) (k:=1) (e':=.agg [I a_1.Day,.dead,.usl 4 (r3.map ah),.usl 1 (r4.map I),B a_1.Over]) (es2':=[.agg [I a_1.Day,.dead,.usl 4 (r3.map ah),.usl 1 (r4.map I),B a_1.Over]]) aW rfl rfl rfl ey)) (cD (iy (path:=[(0,2)]) rfl rfl (gj rfl rfl aW) rfl (oz (path:=[]) (i:=0) (k:=2) (e':=.agg [I a_1.Day,.dead,.dead,.usl 1 (r4.map I),B a_1.Over]) (es2':=[.agg [I a_1.Day,.dead,.dead,.usl 1 (r4.map I),B a_1.Over]]) aW rfl rfl rfl ey)) (cD (iy (path:=[(0,3)]) rfl rfl (gj rfl rfl aW) rfl (oz (path:=[]) (i:=0) (k:=3) (e':=.agg [I a_1.Day,.dead,.dead,.dead,B a_1.Over]) (es2':=[.agg [I a_1.Day,.dead,.dead,.dead,B a_1.Over]]) aW rfl rfl rfl ey)) (cD (cY rfl) oY)))))) rfl rfl rfl aW rfl rfl rfl rfl rfl ey 2 rfl)) ?_
 refine aq 1 ?_
 obtain rfl:=Option.some.inj h
 exact co rfl ⟨_,fin (vs:=[.agg [I a_1.Day,.hs 17 2 [(0,1)] 1 0 (r2.map str).length,.hs 17 2 [(0,2)] 4 0 (r3.map ah).length,.hs 17 2 [(0,3)] 1 0 (r4.map I).length,B a_1.Over]]) (Mr (ur rfl rfl rfl) Ms) (gp (oX (cD (cY rfl) (cD (iy (path:=[(0,1)]) rfl rfl (gj rfl rfl aW) rfl (oz (path:=[]) (i:=0) (k:=1) (e':=.agg [I a_1.Day,.dead,.usl 4 (r3.map ah),.usl 1 (r4.map I),B a_1.Over]) (es2':=[.agg [I a_1.Day,.dead,.usl 4 (r3.map ah),.usl 1 (r4.map I),B a_1.Over]]) aW rfl rfl rfl ey)) (cD (iy (path:=[(0,2)]) rfl rfl (gj rfl rfl aW) rfl (oz (path:=[]) (i:=0) (k:=2) (e':=.agg [I a_1.Day,.dead,.dead,.usl 1 (r4.map I),B a_1.Over]) (es2':=[.agg [I a_1.Day,.dead,.dead,.usl 1 (r4.map I),B a_1.Over]]) aW rfl rfl rfl ey)) (cD (iy (path:=[(0,3)]) rfl rfl (gj rfl rfl aW) rfl (oz (path:=[]) (i:=0) (k:=3) (e':=.agg [I a_1.Day,.dead,.dead,.dead,B a_1.Over]) (es2':=[.agg [I a_1.Day,.dead,.dead,.dead,B a_1.Over]]) aW rfl rfl rfl ey)) (cD (cY rfl) oY)))))) eB) rfl (dj fw),fp⟩
theorem RG {G:Go.Ln.Ground}:aV Tryz.prog G 26 Bh:=gT 1 0 (aM H6 (aM RB (aM RE bF))) ci Tryz.func26 (fun a r h=>Vq a r h)
noncomputable def pB:(Int×Int×Int)→List V:=cA I (cA I (oA I))
noncomputable def pC (r:Bool):V×List V:=(B r,[])
noncomputable def fO:Ent:=bm [false,false,false] pB pC fun x=>eq x.1 x.2.1 x.2.2
theorem eu {x_1:Int}{a_2:Int}{b_3:Int}{r}(h:eq x_1 a_2 b_3=some r):fO.F (pB (x_1,a_2,b_3))=some (pC r):=aI (aU bG (aU bG (aJ bG))) h
noncomputable def Af:Code:=aG Tryz.f128
noncomputable def sP:Env:=b7 Tryz.prog []
noncomputable def Ae (x:Int×Int×Int)(r:Bool):St→Prop:=QF sP Tryz.f128 [false,false,false] (pB x) (pC r)
theorem I7 (x_1:Int)(a_2:Int)(b_3:Int)(r:Bool)(h:eq x_1 a_2 b_3=some r):bA sP Tryz.f128 [false,false,false] 0 (pB (x_1,a_2,b_3)) (pC r):=by
 show Run _ _ (Ae (x_1,a_2,b_3) r) [.code Af] _
 refine rI 15 [(0,I x_1),(1,I a_2),(2,I b_3)] [] 1 ?_
 unfold eq at h
 refine cq 10 [10] [B (decide (x_1≥a_2))] 81 ?_
 obtain⟨u4,hu4,h⟩:=lJ h
 have j4:Run sP 0 (Ae (x_1,a_2,b_3) r) (.code (cR (cR Af))::[]) (sT 15 [(6,B u4)] [] 1):=by
  obtain rfl:=Option.some.inj h
  exact rP [B u4]
 replace h:=hu4
 clear hu4
 refine sp 10 h rfl ?_ ?_<;>intro h
 ·refine cq 6 [6] [B (decide (x_1≤b_3))] 161 ?_
  subst h
  exact rf [6] [] (j4 :)
 ·refine cq 6 [6] [B false] 161 ?_
  subst h
  exact rf [6] [] (j4 :)
theorem gO {G:Go.Ln.Ground}:aV Tryz.prog G 128 fO:=gT 3 0 bF ci Tryz.func128 (fun a r h=>I7 a.1 a.2.1 a.2.2 r h)
noncomputable def E7:Int→List V:=oA (V.int .u8)
noncomputable def E8 (r:Bool):V×List V:=(B r,[])
noncomputable def BU:Ent:=bm [false] E7 E8 fun x=>wN x
theorem abn {b_1:Int}{r}(h:wN b_1=some r):BU.F (E7 b_1)=some (E8 r):=aI (aJ (MD (k:=.u8))) h
noncomputable def wP:Code:=aG Tryz.f157
noncomputable def tH:Env:=b7 Tryz.prog []
noncomputable def wO (x:Int)(r:Bool):St→Prop:=QF tH Tryz.f157 [false] (E7 x) (E8 r)
theorem V3 (b_1:Int)(r:Bool)(h:wN b_1=some r):bA tH Tryz.f157 [false] 0 (E7 b_1) (E8 r):=by
 show Run _ _ (wO b_1 r) [.code wP] _
 refine rI 17 [(0,.int .u8 b_1)] [] 1 ?_
 unfold wN at h
 refine cq 9 [5] [B (decide (b_1≥97))] 65 ?_
 obtain⟨u2,hu2,h⟩:=lJ h
 have j2:Run tH 0 (wO b_1 r) (.code (cR (cR wP))::[]) (sT 17 [(2,B u2)] [] 1):=by
  obtain rfl:=Option.some.inj h
  exact rP [B u2]
 replace h:=hu2
 clear hu2
 refine sp 5 h rfl ?_ ?_<;>intro h
 ·refine cq 4 [9] [B (decide (b_1≤122))] 129 ?_
  obtain⟨u3,hu3,h⟩:=lJ h
  have j3:Run tH 0 (wO b_1 r) (.code (cR (cR wP))::[]) (sT 17 [(2,B u3)] [] 1):=by
   subst h
   exact rf [2] [] (j2 :)
  replace h:=hu3
  clear hu3
  refine sp 9 h rfl ?_ ?_<;>intro h
  ·refine cq 9 [2] [B true] 257 ?_
   subst h
   exact rf [2] [] (j3 :)
  ·refine cq 3 [12] [B (decide (b_1≥48))] 177 ?_
   obtain⟨u4,hu4,h⟩:=lJ h
   have j4:Run tH 0 (wO b_1 r) (.code (cR (cR wP))::[]) (sT 17 [(2,B u4)] [] 1):=by
    subst h
    exact rf [2] [] (j3 :)
   replace h:=hu4
   clear hu4
   refine sp 12 h rfl ?_ ?_<;>intro h
   ·refine cq 6 [2] [B (decide (b_1≤57))] 257 ?_
    subst h
    exact rf [2] [] (j4 :)
   ·refine cq 6 [2] [B false] 257 ?_
    subst h
    exact rf [2] [] (j4 :)
 ·refine cq 7 [9,12] [B false,B (decide (b_1≥48))] 177 ?_
  obtain⟨u5,hu5,h⟩:=lJ h
  have j5:Run tH 0 (wO b_1 r) (.code (cR (cR wP))::[]) (sT 17 [(2,B u5)] [] 1):=by
   subst h
   exact rf [2] [] (j2 :)
  replace h:=hu5
  clear hu5
  refine sp 12 h rfl ?_ ?_<;>intro h
  ·refine cq 6 [2] [B (decide (b_1≤57))] 257 ?_
   subst h
   exact rf [2] [] (j5 :)
  ·refine cq 6 [2] [B false] 257 ?_
   subst h
   exact rf [2] [] (j5 :)
theorem SS {G:Go.Ln.Ground}:aV Tryz.prog G 157 BU:=gT 1 0 bF ci Tryz.func157 (fun a r h=>V3 a r h)
noncomputable def E1:ac→List V:=oA str
noncomputable def E2 (r:Bool):V×List V:=(B r,[])
noncomputable def oT:Ent:=bm [false] E1 E2 fun x=>qX x
theorem qY {s_1:ac}{r}(h:qX s_1=some r):oT.F (E1 s_1)=some (E2 r):=aI (aJ bQ) h
noncomputable def pH:Code:=aG Tryz.f96
noncomputable abbrev nj:Code:=cR (cR (cR (cR pH)))
noncomputable abbrev nk:Code:=cR (cL (cR (cL (cR (cR (cR pH))))))
noncomputable def jA:Env:=b7 Tryz.prog [(128,fO),(157,BU)]
noncomputable def ii (x:ac)(r:Bool):St→Prop:=QF jA Tryz.f96 [false] (E1 x) (E2 r)
theorem Nl (s_1:ac):cj jA 0 (ii s_1) (cL (cL (cR (cL (cR (cR pH)))))) 0 (tD s_1) (fun u=>(sT 40 [(0,str s_1)] [] 1)) fun x4=>(sT 40 [(0,str s_1),(3,I x4)] [] 1):=ef (zu s_1) fun {Q K} hK self ih x4 y h hr hn=>by
 unfold nm at h
 refine cq 8 [21] [B (decide (x4<(len s_1)))] 65 ?_
 refine sq h ?_ ?_<;>intro h
 ·refine aq 1 ?_
  refine cq 6 [24,25] [str s_1,I x4] 97 ?_
  obtain⟨c5,hc5,h⟩:=bS h
  refine oq 113 (.int .u8 (c5.toNat:Int)) rfl (nC rfl rfl (rZ rfl rfl hc5)) ?_
  obtain⟨r6,hr6,h⟩:=bS h
  refine oq 129 (B r6) rfl (cP (abn hr6)) ?_
  refine cq 2 [28] [B (!r6)] 145 ?_
  refine sq h ?_ ?_<;>intro h
  ·refine cq 4 [2] [B false] 161 ?_
   exact co rfl (hr _ (ak h) _ (qp [B false]))
  ·refine aq 1 ?_
   refine cq 6 [3] [I (ai (x4+1))] 193 ?_
   refine cZ ?_
   exact rf [0,3] [] (ih _ _ h hr hn :)
 ·refine aq 1 ?_
  exact rf [0] [] (hn _ (ak h) :) (hk:=hK)
theorem VZ (s_1:ac)(r:Bool)(h:qX s_1=some r):bA jA Tryz.f96 [false] 0 (E1 s_1) (E2 r):=by
 show Run _ _ (ii s_1 r) [.code pH] _
 refine rI 40 [(0,str s_1)] [] 1 ?_
 unfold qX at h
 refine cq 9 [5] [I (len s_1)] 49 ?_
 obtain⟨r2,hr2,h⟩:=bS h
 refine oq 65 (B r2) rfl (cP (eu hr2)) ?_
 refine cq 2 [8] [B (!r2)] 97 ?_
 obtain⟨y3,hy3,hy31,hy32⟩:=bJ h
 have j3:∀u3,y3=.inr u3→Run jA 0 (ii s_1 r) (.code (cR (cL (cR pH)))::.code (cR (cR pH))::[]) (sT 40 [(0,str s_1),(17,B u3)] [] 1):=by
  intro u3 hu
  replace h:=hy32 u3 hu
  refine sq h ?_ ?_<;>intro h
  ·refine cq 4 [2] [B false] 17 ?_
   obtain rfl:=Option.some.inj h
   exact rP [B false]
  ·refine aq 1 ?_
   refine cq 6 [3] [I (0)] 17 ?_
   obtain⟨y7,hy7,hy71,hy72⟩:=bJ h
   refine bN rfl ?_
   refine rf [0,3] [] (Nl s_1 rfl 0 _ hy7 (fun r' e st hq=>by rw[hy71 r' e] at hq;exact hq) fun u7 hu=>?_)
   replace h:=hy72 u7 hu
   refine cq 12 [29,30] [str s_1,B (s_1==([116,114,117,101]:ac))] 49 ?_
   obtain⟨u8,hu8,h⟩:=lJ h
   have j8:Run jA 0 (ii s_1 r) (.code nk::.blk 2::.code nj::[]) (sT 40 [(30,B u8)] [] 1):=by
    refine sq h ?_ ?_<;>intro h
    ·refine cq 4 [2] [B false] 17 ?_
     obtain rfl:=Option.some.inj h
     exact rP [B false]
    ·refine aq 1 ?_
     refine cq 5 [2] [B true] 17 ?_
     obtain rfl:=Option.some.inj h
     exact rP [B true]
   replace h:=hu8
   clear hu8
   refine sn h rfl rfl ?_ ?_<;>intro h
   ·refine aq 1 ?_
    subst h
    exact rf [30] [] (j8 :)
   ·refine cq 5 [30] [B (s_1==([102,114,111,109]:ac))] 81 ?_
    obtain⟨u9,hu9,h⟩:=lJ h
    have j9:Run jA 0 (ii s_1 r) (.code nk::.blk 2::.code nj::[]) (sT 40 [(30,B u9)] [] 1):=by
     subst h
     exact rf [30] [] (j8 :)
    replace h:=hu9
    clear hu9
    refine sn h rfl rfl ?_ ?_<;>intro h
    ·refine aq 1 ?_
     subst h
     exact rf [30] [] (j9 :)
    ·refine cq 5 [30] [B (s_1==([110,111,116]:ac))] 113 ?_
     obtain⟨u10,hu10,h⟩:=lJ h
     have j10:Run jA 0 (ii s_1 r) (.code nk::.blk 2::.code nj::[]) (sT 40 [(30,B u10)] [] 1):=by
      subst h
      exact rf [30] [] (j9 :)
     replace h:=hu10
     clear hu10
     refine sn h rfl rfl ?_ ?_<;>intro h
     ·refine aq 1 ?_
      subst h
      exact rf [30] [] (j10 :)
     ·refine cq 5 [30] [B (s_1==([97,110,100]:ac))] 145 ?_
      obtain⟨u11,hu11,h⟩:=lJ h
      have j11:Run jA 0 (ii s_1 r) (.code nk::.blk 2::.code nj::[]) (sT 40 [(30,B u11)] [] 1):=by
       subst h
       exact rf [30] [] (j10 :)
      replace h:=hu11
      clear hu11
      refine sn h rfl rfl ?_ ?_<;>intro h
      ·refine aq 1 ?_
       subst h
       exact rf [30] [] (j11 :)
      ·refine cq 5 [30] [B (s_1==([111,114]:ac))] 177 ?_
       obtain⟨u12,hu12,h⟩:=lJ h
       have j12:Run jA 0 (ii s_1 r) (.code nk::.blk 2::.code nj::[]) (sT 40 [(30,B u12)] [] 1):=by
        subst h
        exact rf [30] [] (j11 :)
       replace h:=hu12
       clear hu12
       refine sn h rfl rfl ?_ ?_<;>intro h
       ·refine aq 1 ?_
        subst h
        exact rf [30] [] (j12 :)
       ·refine cq 5 [30] [B (s_1==([98,111,116,104]:ac))] 209 ?_
        obtain⟨u13,hu13,h⟩:=lJ h
        have j13:Run jA 0 (ii s_1 r) (.code nk::.blk 2::.code nj::[]) (sT 40 [(30,B u13)] [] 1):=by
         subst h
         exact rf [30] [] (j12 :)
        replace h:=hu13
        clear hu13
        refine sn h rfl rfl ?_ ?_<;>intro h
        ·refine aq 1 ?_
         subst h
         exact rf [30] [] (j13 :)
        ·refine cq 5 [30] [B (s_1==([101,105,116,104,101,114]:ac))] 241 ?_
         obtain⟨u14,hu14,h⟩:=lJ h
         have j14:Run jA 0 (ii s_1 r) (.code nk::.blk 2::.code nj::[]) (sT 40 [(30,B u14)] [] 1):=by
          subst h
          exact rf [30] [] (j13 :)
         replace h:=hu14
         clear hu14
         refine sn h rfl rfl ?_ ?_<;>intro h
         ·refine aq 1 ?_
          subst h
          exact rf [30] [] (j14 :)
         ·refine cq 5 [30] [B (s_1==([105,116]:ac))] 273 ?_
          obtain⟨u15,hu15,h⟩:=lJ h
          have j15:Run jA 0 (ii s_1 r) (.code nk::.blk 2::.code nj::[]) (sT 40 [(30,B u15)] [] 1):=by
           subst h
           exact rf [30] [] (j14 :)
          replace h:=hu15
          clear hu15
          refine sn h rfl rfl ?_ ?_<;>intro h
          ·refine aq 1 ?_
           subst h
           exact rf [30] [] (j15 :)
          ·refine cq 4 [30] [B (s_1==([105,110]:ac))] 305 ?_
           subst h
           exact rf [30] [] (j15 :)
 have r3:∀r',y3=.inl r'→∀st,ii s_1 r' st→(ii s_1 r) st:=fun r' e st hq=>by rw[hy31 r' e] at hq;exact hq
 replace h:=hy3
 refine sp 8 h rfl ?_ ?_<;>intro h
 ·refine cq 10 [17] [B true] 241 ?_
  exact rf [0,17] [] (j3 _ (ak h) :)
 ·refine cq 1 [9] [str s_1] 113 ?_
  obtain⟨c16,hc16,h⟩:=bS h
  refine oy 129 (.int .u8 (c16.toNat:Int)) rfl (nC rfl rfl (rZ rfl rfl hc16)) ?_
  refine cq 3 [13] [B (decide ((c16.toNat:Int)<97))] 177 ?_
  obtain⟨y17,hy17,hy171,hy172⟩:=bL h
  have j17:∀u17,y17=.inr u17→Run jA 0 (ii s_1 r) (.code (cR (cL (cR pH)))::.code (cR (cR pH))::[]) (sT 40 [(0,str s_1),(17,B u17)] [] 1):=by
   intro u17 hu
   replace h:=hy172 u17 hu
   exact rf [0,17] [] (j3 _ (ak h) :)
  have r17:∀r',y17=.inl r'→∀st,ii s_1 r' st→(ii s_1 r) st:=fun r' e st hq=>r3 r' (hy171 r' e) st hq
  replace h:=hy17
  refine sp 13 h rfl ?_ ?_<;>intro h
  ·refine cq 5 [17] [B true] 241 ?_
   exact rf [0,17] [] (j17 _ (ak h) :)
  ·refine cq 1 [14] [str s_1] 193 ?_
   obtain⟨c18,hc18,h⟩:=bS h
   refine oy 209 (.int .u8 (c18.toNat:Int)) rfl (nC rfl rfl (rZ rfl rfl hc18)) ?_
   refine cq 3 [17] [B (decide ((c18.toNat:Int)>122))] 241 ?_
   exact rf [0,17] [] (j17 _ (ak h) :)
theorem rL {G:Go.Ln.Ground}:aV Tryz.prog G 96 oT:=gT 1 0 (aM gO (aM SS bF)) ci Tryz.func96 (fun a r h=>VZ a r h)
noncomputable def EZ:((List ac)×ac)→List V:=cA (fY str) (oA str)
noncomputable def E0 (r:Bool):V×List V:=(B r,[])
noncomputable def uT:Ent:=bm [false,false] EZ E0 fun x=>uS x.1 x.2
theorem KU {aw:List ac}{eS:ac}{r}(h:uS aw eS=some r):uT.F (EZ (aw,eS))=some (E0 r):=aI (aU (ce bQ) (aJ bQ)) h
noncomputable def SN:Code:=aG Tryz.f143
noncomputable def KT:Env:=b7 Tryz.prog []
noncomputable def SM (x:(List ac)×ac)(r:Bool):St→Prop:=QF KT Tryz.f143 [false,false] (EZ x) (E0 r)
theorem Nk (aw:List ac)(eS:ac):cj KT 0 (SM (aw,eS)) (cL (cL (cR (cL (cR SN))))) 0 (tC aw eS) (fun u=>(sT 18 [] [] 1)) fun x3=>(sT 18 [(0,.isl false (aw.map str)),(1,str eS),(5,I x3)] [] 1):=ef (zt aw eS) fun {Q K} hK self ih x3 y h hr hn=>by
 unfold ni at h
 refine cq 5 [6,7] [I x3,.isl false (aw.map str)] 33 ?_
 refine oq 49 (I (len aw)) rfl (bu rfl rfl rfl (bI rfl)) ?_
 refine cq 2 [9] [B (decide (x3<(len aw)))] 65 ?_
 refine sq h ?_ ?_<;>intro h
 ·refine aq 1 ?_
  refine cq 6 [12,13] [.isl false (aw.map str),I x3] 97 ?_
  obtain⟨e4,he4,h⟩:=bS h
  refine oq 113 (.iptr (str e4) 0) rfl (aj rfl rfl rfl (bd rfl rfl rfl rfl he4)) ?_
  refine cq 4 [17] [B (e4==eS)] 161 ?_
  refine sq h ?_ ?_<;>intro h
  ·refine cq 4 [4] [B true] 177 ?_
   exact co rfl (hr _ (ak h) _ (qp [B true]))
  ·refine aq 1 ?_
   refine cq 6 [5] [I (ai (x3+1))] 209 ?_
   refine cZ ?_
   exact rf [0,1,5] [] (ih _ _ h hr hn :)
 ·refine aq 1 ?_
  exact rf [] [] (hn _ (ak h) :) (hk:=hK)
theorem VY (aw:List ac)(eS:ac)(r:Bool)(h:uS aw eS=some r):bA KT Tryz.f143 [false,false] 0 (EZ (aw,eS)) (E0 r):=by
 show Run _ _ (SM (aw,eS) r) [.code SN] _
 refine rI 18 [(0,.isl false (aw.map str)),(1,str eS)] [] 1 ?_
 unfold uS at h
 refine cq 10 [5] [I (0)] 33 ?_
 obtain⟨y5,hy5,hy51,hy52⟩:=bJ h
 refine bN rfl ?_
 refine rf [0,1,5] [] (Nk aw eS rfl 0 _ hy5 (fun r' e st hq=>by rw[hy51 r' e] at hq;exact hq) fun u5 hu=>?_)
 replace h:=hy52 u5 hu
 refine cq 4 [4] [B false] 17 ?_
 obtain rfl:=Option.some.inj h
 exact rP [B false]
theorem H8 {G:Go.Ln.Ground}:aV Tryz.prog G 143 uT:=gT 2 0 bF ci Tryz.func143 (fun a r h=>VY a.1 a.2 r h)
noncomputable def Fn:Contract→List V:=oA aX
noncomputable def Fp (r:Bool):V×List V:=(B r,[])
noncomputable def B3:Ent:=bm [false] Fn Fp fun x=>wW x
theorem abr {c_1:Contract}{r}(h:wW c_1=some r):B3.F (Fn c_1)=some (Fp r):=aI (aJ bn) h
noncomputable def wX:Code:=aG Tryz.f129
noncomputable def Fo:Env:=b7 Tryz.prog [(96,oT),(143,uT),(128,fO)]
noncomputable def K6 (x:Contract)(r:Bool):St→Prop:=QF Fo Tryz.f129 [false] (Fn x) (Fp r)
theorem Nt (c_1:Contract):cj Fo 0 (K6 c_1) (cL (cL (cR (cL (cR wX))))) 0 (tN c_1) (fun u=>(sT 34 [(1,.hp 1 0 [] 2 0 0)] [⟨0,2,[aa c_1]⟩] 2)) fun x2=>(sT 34 [(1,.hp 1 0 [] 2 0 0),(3,I x2)] [⟨0,2,[aa c_1]⟩] 2):=ef (zD c_1) fun {Q K} hK self ih x2 y h hr hn=>by
 unfold lx at h
 refine cq 6 [4,6] [I x2,.isl false (c_1.Parties.map str)] 50 ?_
 refine oq 66 (I (len c_1.Parties)) rfl (bu rfl rfl rfl (bI rfl)) ?_
 refine cq 2 [8] [B (decide (x2<(len c_1.Parties)))] 82 ?_
 refine sq h ?_ ?_<;>intro h
 ·refine aq 1 ?_
  refine aq 3 ?_
  refine dK [0,1,0,7,15,31,63,127,255,511,255,2047,255,4351,255,28927,61695,131071,262143] rfl (by decide +kernel) ?_
  refine dq [1] [] (.hp 1 0 [] 2 0 0) rfl (an rfl rfl rfl) ?_
  refine dq [1] [] (.isl false (c_1.Parties.map str)) rfl (aN rfl rfl) ?_
  refine dk 1 [13] [I x2] ?_
  obtain⟨e3,he3,h⟩:=bS h
  refine dq [] [] (.iptr (str e3) 0) rfl (aj rfl rfl rfl (bd rfl rfl rfl rfl he3)) ?_
  refine dq [] [] (str e3) rfl (aN rfl rfl) ?_
  obtain⟨r4,hr4,h⟩:=bS h
  refine dq [] [] (B r4) rfl (cP (qY hr4)) ?_ (dU rfl rfl rfl rfl (bC (cg rfl) dM) (qY hr4) (.inr rfl) rfl)
  refine dk 2 [18,17] [B (!r4),B (!r4)] ?_
  obtain⟨y5,hy5,hy51,hy52⟩:=bL h
  have j5:∀u5,y5=.inr u5→Run Fo 0 Q (.code (cR (cL (cL (cR (cL (cL (cR (cL (cR wX)))))))))::.blk 1::.code (cR (cR (cL (cL (cR (cL (cR wX)))))))::.lp (cL (cL (cR (cL (cR wX)))))::.blk 0::K) (sT 34 [(1,.hp 1 0 [] 2 0 0),(3,I x2),(29,B u5)] [⟨0,2,[aa c_1]⟩] 2):=by
   intro u5 hu
   replace h:=hy52 u5 hu
   refine sq h ?_ ?_<;>intro h
   ·refine cq 4 [2] [B false] 18 ?_
    exact co rfl (hr _ (ak h) _ (qp [B false]))
   ·refine aq 1 ?_
    refine cq 6 [3] [I (ai (x2+1))] 50 ?_
    refine cZ ?_
    exact rf [1,3] [1] (ih _ _ h hr hn :)
  have r5:∀r',y5=.inl r'→∀st,K6 c_1 r' st→Q st:=fun r' e st hq=>hr r' (hy51 r' e) st hq
  replace h:=hy5
  refine sp 18 h rfl ?_ ?_<;>intro h
  ·refine dk 11 [29,28,27,26,25,24,23,22,21,20,19] [B true,.und,.und,.und,.und,.und,.und,.und,.und,.und,.und] ?_
   refine de 386 rfl rfl ?_
   exact rf [1,3,29] [1] (j5 _ (ak h) :)
  ·refine dy [1] [] (.hp 1 0 [] 2 0 0) rfl (an rfl rfl rfl) ?_
   refine dy [1] [] (.isl false (c_1.Parties.map str)) rfl (aN rfl rfl) ?_
   refine dk 1 [21] [I x2] ?_
   obtain⟨s6,hs6,h⟩:=bS h
   refine dy [] [] (.isl false (s6.map str)) rfl (hY rfl rfl rfl rfl (xN rfl rfl (fun y=>(lP y).1) rfl rfl hs6)) ?_
   refine dy [1] [] (.hp 1 0 [] 2 0 0) rfl (an rfl rfl rfl) ?_
   refine dy [1] [] (.isl false (c_1.Parties.map str)) rfl (aN rfl rfl) ?_
   refine dk 1 [25] [I x2] ?_
   obtain⟨e7,he7,h⟩:=bS h
   refine dy [] [] (.iptr (str e7) 0) rfl (aj rfl rfl rfl (bd rfl rfl rfl rfl he7)) ?_
   refine dy [] [] (str e7) rfl (aN rfl rfl) ?_
   obtain⟨r8,hr8,h⟩:=bS h
   refine dy [] [] (B r8) rfl (cP (KU hr8)) ?_ (dU rfl rfl rfl rfl (bC (cg rfl) (bC (cg rfl) dM)) (KU hr8) (.inr rfl) rfl)
   refine dk 1 [29] [B r8] ?_
   refine de 386 rfl rfl ?_
   exact rf [1,3,29] [1] (j5 _ (ak h) :)
 ·refine aq 1 ?_
  exact rf [1] [1] (hn _ (ak h) :) (hk:=hK)
theorem Wb (c_1:Contract)(r:Bool)(h:wW c_1=some r):bA Fo Tryz.f129 [false] 0 (Fn c_1) (Fp r):=by
 show Run _ _ (K6 c_1 r) [.code wX] _
 refine rI 34 [(0,aa c_1)] [] 1 ?_
 unfold wW at h
 refine ck 11 [1,3] [] [1] [] [.hp 1 0 [] 2 0 0,I (0)] [some ⟨0,2,[aa c_1]⟩] 49 (by kernel_rfl) ?_
 obtain⟨y9,hy9,hy91,hy92⟩:=bJ h
 refine bN rfl ?_
 refine rf [1,3] [1] (Nt c_1 rfl 0 _ hy9 (fun r' e st hq=>by rw[hy91 r' e] at hq;exact hq) fun u9 hu=>?_)
 replace h:=hy92 u9 hu
 refine cq 4 [31] [.isl false (c_1.Parties.map str)] 34 ?_
 refine oq 50 (I (len c_1.Parties)) rfl (bu rfl rfl rfl (bI rfl)) ?_
 obtain⟨r10,hr10,h⟩:=bS h
 refine oq 66 (B r10) rfl (cP (eu hr10)) ?_
 refine cq 2 [2] [B r10] 82 ?_
 obtain rfl:=Option.some.inj h
 exact rP [B r10]
theorem S7 {G:Go.Ln.Ground}:aV Tryz.prog G 129 B3:=gT 1 0 (aM rL (aM H8 (aM gO bF))) ci Tryz.func129 (fun a r h=>Wb a r h)
noncomputable def Fe:(Contract×ac)→List V:=cA aX (oA str)
noncomputable def Ff (r:Int):V×List V:=(I r,[])
noncomputable def uW:Ent:=bm [false,false] Fe Ff fun x=>uV x.1 x.2
theorem K4 {c_1:Contract}{fb:ac}{r}(h:uV c_1 fb=some r):uW.F (Fe (c_1,fb))=some (Ff r):=aI (aU bn (aJ bQ)) h
noncomputable def S2:Code:=aG Tryz.f130
noncomputable def K2:Env:=b7 Tryz.prog []
noncomputable def S1 (x:Contract×ac)(r:Int):St→Prop:=QF K2 Tryz.f130 [false,false] (Fe x) (Ff r)
theorem Nq (c_1:Contract)(fb:ac):cj K2 0 (S1 (c_1,fb)) (cL (cL (cR (cL (cR S2))))) 0 (tL c_1 fb) (fun u=>(sT 22 [] [] 1)) fun x3=>(sT 22 [(1,str fb),(2,.hp 1 0 [] 2 0 0),(5,I x3)] [⟨0,2,[aa c_1]⟩] 2):=ef (zA c_1 fb) fun {Q K} hK self ih x3 y h hr hn=>by
 unfold nq at h
 refine cq 6 [6,8] [I x3,.isl false (c_1.Clauses.map au)] 50 ?_
 refine oq 66 (I (len c_1.Clauses)) rfl (bu rfl rfl rfl (bI rfl)) ?_
 refine cq 2 [10] [B (decide (x3<(len c_1.Clauses)))] 82 ?_
 refine sq h ?_ ?_<;>intro h
 ·refine aq 1 ?_
  refine cq 7 [14,15] [.isl false (c_1.Clauses.map au),I x3] 130 ?_
  obtain⟨e4,he4,h⟩:=bS h
  refine oq 146 (.iptr (az e4) 0) rfl (aj rfl rfl rfl (bd rfl rfl rfl rfl he4)) ?_
  refine cq 5 [20] [B (e4.Id==fb)] 210 ?_
  refine sq h ?_ ?_<;>intro h
  ·refine cq 5 [4] [I x3] 242 ?_
   exact co rfl (hr _ (ak h) _ (qp [I x3]))
  ·refine aq 1 ?_
   refine cq 6 [5] [I (ai (x3+1))] 258 ?_
   refine cZ ?_
   exact rf [1,2,5] [1] (ih _ _ h hr hn :)
 ·refine aq 1 ?_
  exact rf [] [] (hn _ (ak h) :) (hk:=hK)
theorem V8 (c_1:Contract)(fb:ac)(r:Int)(h:uV c_1 fb=some r):bA K2 Tryz.f130 [false,false] 0 (Fe (c_1,fb)) (Ff r):=by
 show Run _ _ (S1 (c_1,fb) r) [.code S2] _
 refine rI 22 [(0,aa c_1),(1,str fb)] [] 1 ?_
 unfold uV at h
 refine ck 11 [2,5] [] [1] [] [.hp 1 0 [] 2 0 0,I (0)] [some ⟨0,2,[aa c_1]⟩] 49 (by kernel_rfl) ?_
 obtain⟨y5,hy5,hy51,hy52⟩:=bJ h
 refine bN rfl ?_
 refine rf [1,2,5] [1] (Nq c_1 fb rfl 0 _ hy5 (fun r' e st hq=>by rw[hy51 r' e] at hq;exact hq) fun u5 hu=>?_)
 replace h:=hy52 u5 hu
 refine cq 4 [4] [I (-1)] 17 ?_
 obtain rfl:=Option.some.inj h
 exact rP [I (-1)]
theorem Ia {G:Go.Ln.Ground}:aV Tryz.prog G 130 uW:=gT 2 0 bF ci Tryz.func130 (fun a r h=>V8 a.1 a.2 r h)
noncomputable def EO:Int→List V:=oA I
noncomputable def EQ (r:Bool):V×List V:=(B r,[])
noncomputable def qV:Ent:=bm [false] EO EQ fun x=>qU x
theorem EP {gP:Int}{r}(h:qU gP=some r):qV.F (EO gP)=some (EQ r):=aI (aJ bG) h
noncomputable def abi:Code:=aG Tryz.f63
noncomputable def SD:Env:=b7 Tryz.prog [(128,fO)]
noncomputable def abh (x:Int)(r:Bool):St→Prop:=QF SD Tryz.f63 [false] (EO x) (EQ r)
theorem VS (gP:Int)(r:Bool)(h:qU gP=some r):bA SD Tryz.f63 [false] 0 (EO gP) (EQ r):=by
 show Run _ _ (abh gP r) [.code abi] _
 refine rI 5 [(0,I gP)] [] 1 ?_
 unfold qU at h
 refine cq 7 [3] [I gP] 33 ?_
 obtain⟨r2,hr2,h⟩:=bS h
 refine oq 49 (B r2) rfl (cP (eu hr2)) ?_
 refine cq 2 [2] [B r2] 65 ?_
 obtain rfl:=Option.some.inj h
 exact rP [B r2]
theorem wD {G:Go.Ln.Ground}:aV Tryz.prog G 63 qV:=gT 1 0 (aM gO bF) ci Tryz.func63 (fun a r h=>VS a r h)
noncomputable def EU:Condition→List V:=oA bB
noncomputable def EV (r:Bool):V×List V:=(B r,[])
noncomputable def BP:Ent:=bm [false] EU EV fun x=>BO x
theorem abk {c_1:Condition}{r}(h:BO c_1=some r):BP.F (EU c_1)=some (EV r):=aI (aJ dt) h
noncomputable def nO:Code:=aG Tryz.f263
noncomputable abbrev jz:Code:=cR (cR (cR nO))
noncomputable abbrev NX:Code:=cR (cL (cR (cR (cR (cL (cR (cL (cR (cR nO)))))))))
noncomputable abbrev NY:Code:=cR (cL (cR (cR (cR (cR (cR (cL (cR (cL (cR (cR nO)))))))))))
noncomputable abbrev NZ:Code:=cR (cL (cR (cR (cR (cR (cR (cR (cR (cL (cR (cL (cR (cR nO)))))))))))))
noncomputable abbrev N0:Code:=cR (cL (cR (cR (cR (cR (cR (cR (cR (cR (cR (cL (cR (cL (cR (cR nO)))))))))))))))
noncomputable def jy:Env:=b7 Tryz.prog [(96,oT),(63,qV)]
noncomputable def gy (x:Condition)(r:Bool):St→Prop:=QF jy Tryz.f263 [false] (EU x) (EV r)
theorem VU (c_1:Condition)(r:Bool)(h:BO c_1=some r):bA jy Tryz.f263 [false] 0 (EU c_1) (EV r):=by
 show Run _ _ (gy c_1 r) [.code nO] _
 refine rI 80 [(0,ao c_1)] [] 1 ?_
 unfold BO at h
 refine ck 9 [1,5] [] [1] [] [.hp 1 0 [] 4 0 0,.isl false (c_1.Parts.map aE)] [some ⟨0,4,[ao c_1]⟩] 65 (by kernel_rfl) ?_
 refine oq 81 (I (len c_1.Parts)) rfl (bu rfl rfl rfl (bI rfl)) ?_
 refine cq 14 [3,8,9] [I (len c_1.Parts),I c_1.Op,B (c_1.Op==1)] 161 ?_
 refine sq h ?_ ?_<;>intro h
 ·refine cq 5 [13] [B ((len c_1.Parts)==0)] 209 ?_
  obtain⟨u2,hu2,h⟩:=lJ h
  have j2:Run jy 0 (gy c_1 r) (.code (cR (cL (cR (cL (cR (cL (cR (cR nO))))))))::.blk 0::.code jz::[]) (sT 80 [(2,B u2)] [] 1):=by
   obtain rfl:=Option.some.inj h
   exact rP [B u2]
  replace h:=hu2
  clear hu2
  refine sp 13 h rfl ?_ ?_<;>intro h
  ·refine cq 5 [18] [B (c_1.Name==([]:ac))] 289 ?_
   obtain⟨u3,hu3,h⟩:=lJ h
   have j3:Run jy 0 (gy c_1 r) (.code (cR (cL (cR (cL (cR (cL (cR (cR nO))))))))::.blk 0::.code jz::[]) (sT 80 [(2,B u3)] [] 1):=by
    subst h
    exact rf [2] [] (j2 :)
   replace h:=hu3
   clear hu3
   refine sp 18 h rfl ?_ ?_<;>intro h
   ·refine cq 6 [2] [B (c_1.Day==0)] 369 ?_
    subst h
    exact rf [2] [] (j3 :)
   ·refine cq 6 [2] [B false] 369 ?_
    subst h
    exact rf [2] [] (j3 :)
  ·refine cq 11 [2] [B false] 369 ?_
   subst h
   exact rf [2] [] (j2 :)
 ·refine cq 5 [23] [B (c_1.Op==2)] 193 ?_
  refine sq h ?_ ?_<;>intro h
  ·refine cq 5 [27] [B ((len c_1.Parts)==0)] 241 ?_
   obtain⟨y4,hy4,hy41,hy42⟩:=bJ h
   have j4:∀u4,y4=.inr u4→Run jy 0 (gy c_1 r) (.code NX::.blk 0::.code jz::[]) (sT 80 [(2,B u4)] [] 1):=by
    intro u4 hu
    replace h:=hy42 u4 hu
    obtain rfl:=Option.some.inj h
    exact rP [B u4]
   have r4:∀r',y4=.inl r'→∀st,gy c_1 r' st→(gy c_1 r) st:=fun r' e st hq=>by rw[hy41 r' e] at hq;exact hq
   replace h:=hy4
   refine sp 27 h rfl ?_ ?_<;>intro h
   ·refine cq 2 [29] [str c_1.Name] 273 ?_
    obtain⟨r5,hr5,h⟩:=bS h
    refine oy 289 (B r5) rfl (cP (qY hr5)) ?_
    refine cq 2 [32] [B r5] 321 ?_
    obtain⟨u6,hu6,h⟩:=lJ h
    have j6:Run jy 0 (gy c_1 r) (.code NX::.blk 0::.code jz::[]) (sT 80 [(2,B u6)] [] 1):=by
     exact rf [2] [] (j4 _ (ak h) :)
    replace h:=hu6
    clear hu6
    refine sp 32 h rfl ?_ ?_<;>intro h
    ·refine cq 6 [2] [B (c_1.Day==0)] 401 ?_
     subst h
     exact rf [2] [] (j6 :)
    ·refine cq 6 [2] [B false] 401 ?_
     subst h
     exact rf [2] [] (j6 :)
   ·refine cq 11 [2] [B false] 401 ?_
    exact rf [2] [] (j4 _ (ak h) :)
  ·refine cq 5 [37] [B (c_1.Op==3)] 225 ?_
   refine sq h ?_ ?_<;>intro h
   ·refine cq 5 [41] [B ((len c_1.Parts)==0)] 273 ?_
    obtain⟨y7,hy7,hy71,hy72⟩:=bJ h
    have j7:∀u7,y7=.inr u7→Run jy 0 (gy c_1 r) (.code NY::.blk 0::.code jz::[]) (sT 80 [(2,B u7)] [] 1):=by
     intro u7 hu
     replace h:=hy72 u7 hu
     obtain rfl:=Option.some.inj h
     exact rP [B u7]
    have r7:∀r',y7=.inl r'→∀st,gy c_1 r' st→(gy c_1 r) st:=fun r' e st hq=>by rw[hy71 r' e] at hq;exact hq
    replace h:=hy7
    refine sp 41 h rfl ?_ ?_<;>intro h
    ·refine cq 5 [46] [B (c_1.Name==([]:ac))] 353 ?_
     obtain⟨y8,hy8,hy81,hy82⟩:=bL h
     have j8:∀u8,y8=.inr u8→Run jy 0 (gy c_1 r) (.code NY::.blk 0::.code jz::[]) (sT 80 [(2,B u8)] [] 1):=by
      intro u8 hu
      replace h:=hy82 u8 hu
      exact rf [2] [] (j7 _ (ak h) :)
     have r8:∀r',y8=.inl r'→∀st,gy c_1 r' st→(gy c_1 r) st:=fun r' e st hq=>r7 r' (hy81 r' e) st hq
     replace h:=hy8
     refine sp 46 h rfl ?_ ?_<;>intro h
     ·refine cq 2 [48] [I c_1.Day] 385 ?_
      obtain⟨r9,hr9,h⟩:=bS h
      refine oy 401 (B r9) rfl (cP (EP hr9)) ?_
      refine cq 3 [2] [B r9] 433 ?_
      exact rf [2] [] (j8 _ (ak h) :)
     ·refine cq 6 [2] [B false] 433 ?_
      exact rf [2] [] (j8 _ (ak h) :)
    ·refine cq 11 [2] [B false] 433 ?_
     exact rf [2] [] (j7 _ (ak h) :)
   ·refine cq 5 [51] [B (c_1.Op==4)] 257 ?_
    refine sq h ?_ ?_<;>intro h
    ·refine cq 5 [55] [B ((len c_1.Parts)==1)] 305 ?_
     obtain⟨u10,hu10,h⟩:=lJ h
     have j10:Run jy 0 (gy c_1 r) (.code NZ::.blk 0::.code jz::[]) (sT 80 [(2,B u10)] [] 1):=by
      obtain rfl:=Option.some.inj h
      exact rP [B u10]
     replace h:=hu10
     clear hu10
     refine sp 55 h rfl ?_ ?_<;>intro h
     ·refine cq 5 [60] [B (c_1.Name==([]:ac))] 385 ?_
      obtain⟨u11,hu11,h⟩:=lJ h
      have j11:Run jy 0 (gy c_1 r) (.code NZ::.blk 0::.code jz::[]) (sT 80 [(2,B u11)] [] 1):=by
       subst h
       exact rf [2] [] (j10 :)
      replace h:=hu11
      clear hu11
      refine sp 60 h rfl ?_ ?_<;>intro h
      ·refine cq 6 [2] [B (c_1.Day==0)] 465 ?_
       subst h
       exact rf [2] [] (j11 :)
      ·refine cq 6 [2] [B false] 465 ?_
       subst h
       exact rf [2] [] (j11 :)
     ·refine cq 11 [2] [B false] 465 ?_
      subst h
      exact rf [2] [] (j10 :)
    ·refine cq 6 [65] [B (c_1.Op==5)] 289 ?_
     obtain⟨u12,hu12,h⟩:=lJ h
     have j12:Run jy 0 (gy c_1 r) (.code (cR (cR (cR (cR (cR (cR (cR (cR (cR (cL (cR (cL (cR (cR nO))))))))))))))::.blk 0::.code jz::[]) (sT 80 [(1,.hp 1 0 [] 4 0 0),(3,I (len c_1.Parts)),(65,B u12)] [⟨0,4,[ao c_1]⟩] 2):=by
      refine sq h ?_ ?_<;>intro h
      ·refine cq 5 [70] [B ((len c_1.Parts)==2)] 50 ?_
       obtain⟨u13,hu13,h⟩:=lJ h
       have j13:Run jy 0 (gy c_1 r) (.code N0::.blk 0::.code jz::[]) (sT 80 [(2,B u13)] [] 1):=by
        obtain rfl:=Option.some.inj h
        exact rP [B u13]
       replace h:=hu13
       clear hu13
       refine sp 70 h rfl ?_ ?_<;>intro h
       ·refine cq 5 [75] [B (c_1.Name==([]:ac))] 130 ?_
        obtain⟨u14,hu14,h⟩:=lJ h
        have j14:Run jy 0 (gy c_1 r) (.code N0::.blk 0::.code jz::[]) (sT 80 [(2,B u14)] [] 1):=by
         subst h
         exact rf [2] [] (j13 :)
        replace h:=hu14
        clear hu14
        refine sp 75 h rfl ?_ ?_<;>intro h
        ·refine cq 6 [2] [B (c_1.Day==0)] 210 ?_
         subst h
         exact rf [2] [] (j14 :)
        ·refine cq 6 [2] [B false] 210 ?_
         subst h
         exact rf [2] [] (j14 :)
       ·refine cq 11 [2] [B false] 210 ?_
        subst h
        exact rf [2] [] (j13 :)
      ·refine aq 1 ?_
       refine cq 5 [2] [B false] 18 ?_
       obtain rfl:=Option.some.inj h
       exact rP [B false]
     replace h:=hu12
     clear hu12
     refine sn h rfl rfl ?_ ?_<;>intro h
     ·refine aq 1 ?_
      subst h
      exact rf [1,3,65] [1] (j12 :)
     ·refine cq 4 [65] [B (c_1.Op==6)] 321 ?_
      subst h
      exact rf [1,3,65] [1] (j12 :)
theorem SG {G:Go.Ln.Ground}:aV Tryz.prog G 263 BP:=gT 1 0 (aM rL (aM wD bF)) ci Tryz.func263 (fun a r h=>VU a r h)
noncomputable def wE:Condition→List V:=oA bB
noncomputable def wF (r:Bool):V×List V:=(B r,[])
noncomputable def wG (cr:Condition→Option Bool):Ent:=bm [false] wE wF cr
theorem N1 (cr:Condition→Option Bool){x}{r}(h:cr x=some r):(wG cr).F (wE x)=some (wF r):=aI (aJ dt) h
noncomputable def BQ:Ent:=wG (aK qW)
theorem abl {c_1:Condition}{r}(h:Hj c_1=some r):BQ.F (wE c_1)=some (wF r):=N1 (aK qW) h
noncomputable def SI:Code:=aG Tryz.f236
noncomputable def KR (cr:Condition→Option Bool):Env:=b7 Tryz.prog [(263,BP),(236,(wG cr))]
noncomputable def SH (cr:Condition→Option Bool)(x:Condition)(r:Bool):St→Prop:=QF (KR cr) Tryz.f236 [false] (wE x) (wF r)
theorem Nj (cr:Condition→Option Bool)(c_1:Condition):cj (KR cr) 0 (SH cr c_1) (cL (cL (cR (cL (cR (cR SI)))))) 0 (qN cr c_1) (fun u=>(sT 21 [] [] 1)) fun x3=>(sT 21 [(1,.hp 1 0 [] 4 0 0),(3,I x3)] [⟨0,4,[ao c_1]⟩] 2):=ef (zr cr c_1) fun {Q K} hK self ih x3 y h hr hn=>by
 unfold ln at h
 refine cq 6 [7,9] [I x3,.isl false (c_1.Parts.map aE)] 50 ?_
 refine oq 66 (I (len c_1.Parts)) rfl (bu rfl rfl rfl (bI rfl)) ?_
 refine cq 2 [11] [B (decide (x3<(len c_1.Parts)))] 82 ?_
 refine sq h ?_ ?_<;>intro h
 ·refine aq 1 ?_
  refine cq 7 [15,16] [.isl false (c_1.Parts.map aE),I x3] 130 ?_
  obtain⟨e4,he4,h⟩:=bS h
  refine oq 146 (.iptr (ao e4) 0) rfl (aj rfl rfl rfl (bd rfl rfl (dm e4) rfl he4)) ?_
  refine cq 1 [18] [ao e4] 162 ?_
  obtain⟨r5,hr5,h⟩:=bS h
  refine oq 178 (B r5) rfl (cm rfl rfl (cU rfl rfl rfl (bC (cg rfl) dM) (N1 cr hr5) (.inr rfl) ew rfl rfl rfl)) ?_
  refine cq 2 [20] [B (!r5)] 194 ?_
  refine sq h ?_ ?_<;>intro h
  ·refine cq 4 [2] [B false] 210 ?_
   exact co rfl (hr _ (ak h) _ (qp [B false]))
  ·refine aq 1 ?_
   refine cq 6 [3] [I (ai (x3+1))] 242 ?_
   refine cZ ?_
   exact rf [1,3] [1] (ih _ _ h hr hn :)
 ·refine aq 1 ?_
  exact rf [] [] (hn _ (ak h) :) (hk:=hK)
theorem VW (cr:Condition→Option Bool)(c_1:Condition)(r:Bool)(h:tB cr c_1=some r):bA (KR cr) Tryz.f236 [false] 0 (wE c_1) (wF r):=by
 show Run _ _ (SH cr c_1 r) [.code SI] _
 refine rI 21 [(0,ao c_1)] [] 1 ?_
 unfold tB at h
 refine ck 9 [1,4] [] [1] [] [.hp 1 0 [] 4 0 0,ao c_1] [some ⟨0,4,[ao c_1]⟩] 49 (by kernel_rfl) ?_
 obtain⟨r2,hr2,h⟩:=bS h
 refine oq 65 (B r2) rfl (cP (abk hr2)) ?_
 refine cq 2 [6] [B (!r2)] 81 ?_
 refine sq h ?_ ?_<;>intro h
 ·refine cq 4 [2] [B false] 97 ?_
  obtain rfl:=Option.some.inj h
  exact rP [B false]
 ·refine aq 1 ?_
  refine cq 6 [3] [I (0)] 97 ?_
  obtain⟨y6,hy6,hy61,hy62⟩:=bJ h
  refine bN rfl ?_
  refine rf [1,3] [1] (Nj cr c_1 rfl 0 _ hy6 (fun r' e st hq=>by rw[hy61 r' e] at hq;exact hq) fun u6 hu=>?_)
  replace h:=hy62 u6 hu
  refine cq 4 [2] [B true] 17 ?_
  obtain rfl:=Option.some.inj h
  exact rP [B true]
theorem SJ {G:Go.Ln.Ground}:aV Tryz.prog G 236 BQ:=km fun cr g_Ffdm=>gT 1 0 (aM SG (aM g_Ffdm bF)) ci Tryz.func236 (fun a r h=>VW cr a r h)
noncomputable def wQ:Condition→List V:=oA bB
noncomputable def wS (r:Int):V×List V:=(I r,[])
noncomputable def wU (cu:Condition→Option Int):Ent:=bm [false] wQ wS cu
theorem N3 (cu:Condition→Option Int){x}{r}(h:cu x=some r):(wU cu).F (wQ x)=some (wS r):=aI (aJ dt) h
noncomputable def BV:Ent:=wU (aK ls)
theorem abo {c_1:Condition}{r}(h:KY c_1=some r):BV.F (wQ c_1)=some (wS r):=N3 (aK ls) h
noncomputable def SU:Code:=aG Tryz.f237
noncomputable def KZ (cu:Condition→Option Int):Env:=b7 Tryz.prog [(237,(wU cu))]
noncomputable def ST (cu:Condition→Option Int)(x:Condition)(r:Int):St→Prop:=QF (KZ cu) Tryz.f237 [false] (wQ x) (wS r)
theorem No (cu:Condition→Option Int)(c_1:Condition):cj (KZ cu) 0 (ST cu c_1) (cL (cL (cR (cL (cR (cR SU)))))) 0 (lW cu c_1) (fun u=>(sT 21 [(3,I u)] [] 1)) fun x2=>(sT 21 [(1,.hp 1 0 [] 4 0 0),(3,I x2.1),(4,I x2.2)] [⟨0,4,[ao c_1]⟩] 2):=ef (zy cu c_1) fun {Q K} hK self ih x2 y h hr hn=>by
 unfold jW at h
 refine cq 6 [5,7] [I x2.2,.isl false (c_1.Parts.map aE)] 50 ?_
 refine oq 66 (I (len c_1.Parts)) rfl (bu rfl rfl rfl (bI rfl)) ?_
 refine cq 2 [9] [B (decide (x2.2<(len c_1.Parts)))] 82 ?_
 refine sq h ?_ ?_<;>intro h
 ·refine aq 1 ?_
  refine cq 7 [12,14,15] [I x2.1,.isl false (c_1.Parts.map aE),I x2.2] 146 ?_
  obtain⟨e3,he3,h⟩:=bS h
  refine oq 162 (.iptr (ao e3) 0) rfl (aj rfl rfl rfl (bd rfl rfl (dm e3) rfl he3)) ?_
  refine cq 1 [17] [ao e3] 178 ?_
  obtain⟨r4,hr4,h⟩:=bS h
  refine oq 194 (I r4) rfl (cm rfl rfl (cU rfl rfl rfl (bC (cg rfl) dM) (N3 cu hr4) (.inr rfl) ew rfl rfl rfl)) ?_
  refine cq 9 [3,4] [I (ai (x2.1+r4)),I (ai (x2.2+1))] 274 ?_
  refine cZ ?_
  exact rf [1,3,4] [1] (ih _ _ h hr hn :)
 ·refine aq 1 ?_
  exact rf [3] [] (hn _ (ak h) :) (hk:=hK)
theorem V5 (cu:Condition→Option Int)(c_1:Condition)(r:Int)(h:tI cu c_1=some r):bA (KZ cu) Tryz.f237 [false] 0 (wQ c_1) (wS r):=by
 show Run _ _ (ST cu c_1 r) [.code SU] _
 refine rI 21 [(0,ao c_1)] [] 1 ?_
 unfold tI at h
 refine ck 15 [1,3,4] [] [1] [] [.hp 1 0 [] 4 0 0,I (1),I (0)] [some ⟨0,4,[ao c_1]⟩] 65 (by kernel_rfl) ?_
 obtain⟨y5,hy5,hy51,hy52⟩:=bJ h
 refine bN rfl ?_
 refine rf [1,3,4] [1] (No cu c_1 rfl (1,0) _ hy5 (fun r' e st hq=>by rw[hy51 r' e] at hq;exact hq) fun u5 hu=>?_)
 replace h:=hy52 u5 hu
 refine cq 5 [2] [I u5] 33 ?_
 obtain rfl:=Option.some.inj h
 exact rP [I u5]
theorem SV {G:Go.Ln.Ground}:aV Tryz.prog G 237 BV:=km fun cu g_Ffdt=>gT 1 0 (aM g_Ffdt bF) ci Tryz.func237 (fun a r h=>V5 cu a r h)
noncomputable def EW:Condition→List V:=oA bB
noncomputable def EY (r:Bool):V×List V:=(B r,[])
noncomputable def BS:Ent:=bm [false] EW EY fun x=>BR x
theorem abm {c_1:Condition}{r}(h:BR c_1=some r):BS.F (EW c_1)=some (EY r):=aI (aJ dt) h
noncomputable def SK:Code:=aG Tryz.f186
noncomputable def KS:Env:=b7 Tryz.prog [(236,BQ),(237,BV)]
noncomputable def EX (x:Condition)(r:Bool):St→Prop:=QF KS Tryz.f186 [false] (EW x) (EY r)
theorem VX (c_1:Condition)(r:Bool)(h:BR c_1=some r):bA KS Tryz.f186 [false] 0 (EW c_1) (EY r):=by
 show Run _ _ (EX c_1 r) [.code SK] _
 refine rI 10 [(0,ao c_1)] [] 1 ?_
 unfold BR at h
 refine ck 8 [1,3] [] [1] [] [.hp 1 0 [] 4 0 0,ao c_1] [some ⟨0,4,[ao c_1]⟩] 49 (by kernel_rfl) ?_
 obtain⟨r2,hr2,h⟩:=bS h
 refine oq 65 (B r2) rfl (cP (abl hr2)) ?_
 refine cq 1 [5] [B r2] 81 ?_
 obtain⟨y3,hy3,hy31,hy32⟩:=bJ h
 have j3:∀u3,y3=.inr u3→Run KS 0 (EX c_1 r) (.code (cR (cR SK))::[]) (sT 10 [(2,B u3)] [] 1):=by
  intro u3 hu
  replace h:=hy32 u3 hu
  obtain rfl:=Option.some.inj h
  exact rP [B u3]
 have r3:∀r',y3=.inl r'→∀st,EX c_1 r' st→(EX c_1 r) st:=fun r' e st hq=>by rw[hy31 r' e] at hq;exact hq
 replace h:=hy3
 refine sp 5 h rfl ?_ ?_<;>intro h
 ·refine cq 1 [6] [ao c_1] 97 ?_
  obtain⟨r4,hr4,h⟩:=bS h
  refine oy 113 (I r4) rfl (cP (abo hr4)) ?_
  refine cq 4 [2] [B (decide (r4≤15))] 161 ?_
  exact rf [2] [] (j3 _ (ak h) :)
 ·refine cq 6 [2] [B false] 161 ?_
  exact rf [2] [] (j3 _ (ak h) :)
theorem SL {G:Go.Ln.Ground}:aV Tryz.prog G 186 BS:=gT 1 0 (aM SJ (aM SV bF)) ci Tryz.func186 (fun a r h=>VX a r h)
noncomputable def Fa:(Contract×Int)→List V:=cA aX (oA I)
noncomputable def Fb (r:Bool):V×List V:=(B r,[])
noncomputable def BX:Ent:=bm [false,false] Fa Fb fun x=>BW x.1 x.2
theorem SW {c_1:Contract}{i_2:Int}{r}(h:BW c_1 i_2=some r):BX.F (Fa (c_1,i_2))=some (Fb r):=aI (aU bn (aJ bG)) h
noncomputable def K0:Code:=aG Tryz.f131
noncomputable abbrev no:Code:=cR (cR (cR (cR K0)))
noncomputable abbrev qO:Code:=cR (cL (cR (cR (cR K0))))
noncomputable abbrev tJ:Code:=cR no
noncomputable abbrev xY:Code:=cR (cL no)
noncomputable abbrev Hk:Code:=cR (cR (cR tJ))
noncomputable def ix:Env:=b7 Tryz.prog [(96,oT),(128,fO),(130,uW),(186,BS)]
noncomputable def eb (x:Contract×Int)(r:Bool):St→Prop:=QF ix Tryz.f131 [false,false] (Fa x) (Fb r)
theorem V6 (c_1:Contract)(i_2:Int)(r:Bool)(h:BW c_1 i_2=some r):bA ix Tryz.f131 [false,false] 0 (Fa (c_1,i_2)) (Fb r):=by
 show Run _ _ (eb (c_1,i_2) r) [.code K0] _
 refine rI 114 [(0,aa c_1),(1,I i_2)] [] 1 ?_
 unfold BW at h
 refine ck 10 [2,9,10] [] [1] [] [.hp 1 0 [] 2 0 0,.isl false (c_1.Clauses.map au),I i_2] [some ⟨0,2,[aa c_1]⟩] 81 (by kernel_rfl) ?_
 obtain⟨e3,he3,h⟩:=bS h
 refine oq 97 (.iptr (az e3) 0) rfl (aj rfl rfl rfl (bd rfl rfl rfl rfl he3)) ?_
 refine ck 2 [5,12] [] [113] [] [.hp 113 0 [] 12 0 0,az e3] [some ⟨0,12,[.agg [str ([]),I (0),I (0),str ([]),I (0),I (0),I (0),str ([]),I (0),.isl true [],I (0),str ([])]]⟩] 129 (by kernel_rfl) ?_
 refine fI 113 [.agg [str ([]),I (0),I (0),str ([]),I (0),I (0),I (0),str ([]),I (0),.usl 4 (([]).map aC),I (0),str ([])]] rfl rfl (aL (gU (aL (.refl _) (aL (.refl _) (aL (.refl _) (aL (.refl _) (aL (.refl _) (aL (.refl _) (aL (.refl _) (aL (.refl _) (aL (.refl _) (aL (.nil _) (aL (.refl _) (aL (.refl _) eL))))))))))))) eL) ?_
 refine ck 6 [14] [] [113] [] [.isl false (c_1.Parties.map str)] [some ⟨2,12,[az e3]⟩] 177 (by kernel_rfl) ?_
 refine oq 193 (I (len c_1.Parties)) rfl (bu rfl rfl rfl (bI rfl)) ?_
 refine cq 7 [6,17] [I (len c_1.Parties),str e3.Id] 241 ?_
 obtain⟨r4,hr4,h⟩:=bS h
 refine oq 257 (B r4) rfl (cP (qY hr4)) ?_
 refine cq 2 [20] [B (!r4)] 289 ?_
 obtain⟨y5,hy5,hy51,hy52⟩:=bJ h
 have j5:∀u5,y5=.inr u5→Run ix 0 (eb (c_1,i_2) r) (.code qO::.code no::[]) (sT 114 [(1,I i_2),(2,.hp 1 0 [] 2 0 0),(5,.hp 2 0 [] 12 0 0),(60,B u5)] [⟨0,2,[aa c_1]⟩,⟨0,12,[az e3]⟩] 3):=by
  intro u5 hu
  replace h:=hy52 u5 hu
  refine sq h ?_ ?_<;>intro h
  ·refine cq 4 [4] [B false] 19 ?_
   obtain rfl:=Option.some.inj h
   exact rP [B false]
  ·refine aq 1 ?_
   refine cq 5 [62] [I e3.Amount] 35 ?_
   obtain⟨r6,hr6,h⟩:=bS h
   refine oq 51 (B r6) rfl (cP (eu hr6)) ?_
   refine cq 2 [65] [B (!r6)] 83 ?_
   obtain⟨y7,hy7,hy71,hy72⟩:=bJ h
   have j7:∀u7,y7=.inr u7→Run ix 0 (eb (c_1,i_2) r) (.code xY::.code tJ::[]) (sT 114 [(1,I i_2),(2,.hp 1 0 [] 2 0 0),(5,.hp 2 0 [] 12 0 0),(85,B u7)] [⟨0,2,[aa c_1]⟩,⟨0,12,[az e3]⟩] 3):=by
    intro u7 hu
    replace h:=hy72 u7 hu
    refine sq h ?_ ?_<;>intro h
    ·refine cq 4 [4] [B false] 19 ?_
     obtain rfl:=Option.some.inj h
     exact rP [B false]
    ·refine aq 1 ?_
     refine cq 7 [88] [B (e3.Repair==([]:ac))] 51 ?_
     refine sq h ?_ ?_<;>intro h
     ·refine cq 4 [4] [B true] 67 ?_
      obtain rfl:=Option.some.inj h
      exact rP [B true]
     ·refine aq 1 ?_
      refine cq 5 [89,91] [aa c_1,str e3.Repair] 99 ?_
      obtain⟨r8,hr8,h⟩:=bS h
      refine oq 115 (I r8) rfl (cP (K4 hr8)) ?_
      refine cq 7 [7,95] [I r8,B (decide (r8≥0))] 179 ?_
      obtain⟨y9,hy9,hy91,hy92⟩:=bJ h
      have j9:∀u9,y9=.inr u9→Run ix 0 (eb (c_1,i_2) r) (.code Hk::[]) (sT 114 [(4,B u9)] [] 1):=by
       intro u9 hu
       replace h:=hy92 u9 hu
       obtain rfl:=Option.some.inj h
       exact rP [B u9]
      have r9:∀r',y9=.inl r'→∀st,eb (c_1,i_2) r' st→(eb (c_1,i_2) r) st:=fun r' e st hq=>by rw[hy91 r' e] at hq;exact hq
      replace h:=hy9
      refine sp 95 h rfl ?_ ?_<;>intro h
      ·refine cq 5 [100] [B (r8 != i_2)] 259 ?_
       obtain⟨y10,hy10,hy101,hy102⟩:=bL h
       have j10:∀u10,y10=.inr u10→Run ix 0 (eb (c_1,i_2) r) (.code Hk::[]) (sT 114 [(4,B u10)] [] 1):=by
        intro u10 hu
        replace h:=hy102 u10 hu
        exact rf [4] [] (j9 _ (ak h) :)
       have r10:∀r',y10=.inl r'→∀st,eb (c_1,i_2) r' st→(eb (c_1,i_2) r) st:=fun r' e st hq=>r9 r' (hy101 r' e) st hq
       replace h:=hy10
       refine sp 100 h rfl ?_ ?_<;>intro h
       ·refine cq 3 [102,103] [.isl false (c_1.Clauses.map au),I r8] 307 ?_
        obtain⟨e11,he11,h⟩:=bS h
        refine oy 323 (.iptr (az e11) 0) rfl (aj rfl rfl rfl (bd rfl rfl rfl rfl he11)) ?_
        refine cq 5 [109] [B (e11.Kind==1)] 403 ?_
        obtain⟨u12,hu12,h⟩:=lJ h
        have j12:Run ix 0 (eb (c_1,i_2) r) (.code Hk::[]) (sT 114 [(4,B u12)] [] 1):=by
         exact rf [4] [] (j10 _ (ak h) :)
        replace h:=hu12
        clear hu12
        refine sp 109 h rfl ?_ ?_<;>intro h
        ·refine cq 6 [4] [B (e3.Kind != 3)] 483 ?_
         subst h
         exact rf [4] [] (j12 :)
        ·refine cq 6 [4] [B false] 483 ?_
         subst h
         exact rf [4] [] (j12 :)
       ·refine cq 15 [4] [B false] 483 ?_
        exact rf [4] [] (j10 _ (ak h) :)
      ·refine cq 20 [4] [B false] 483 ?_
       exact rf [4] [] (j9 _ (ak h) :)
   have r7:∀r',y7=.inl r'→∀st,eb (c_1,i_2) r' st→(eb (c_1,i_2) r) st:=fun r' e st hq=>by rw[hy71 r' e] at hq;exact hq
   replace h:=hy7
   refine sp 65 h rfl ?_ ?_<;>intro h
   ·refine cq 21 [85] [B true] 403 ?_
    exact rf [1,2,5,85] [1,2] (j7 _ (ak h) :)
   ·refine cq 2 [67] [I e3.Within] 115 ?_
    obtain⟨r13,hr13,h⟩:=bS h
    refine oy 131 (B r13) rfl (cP (eu hr13)) ?_
    refine cq 3 [71] [B (!r13)] 179 ?_
    obtain⟨u14,hu14,h⟩:=lJ h
    have j14:Run ix 0 (eb (c_1,i_2) r) (.code xY::.code tJ::[]) (sT 114 [(1,I i_2),(2,.hp 1 0 [] 2 0 0),(5,.hp 2 0 [] 12 0 0),(85,B u14)] [⟨0,2,[aa c_1]⟩,⟨0,12,[az e3]⟩] 3):=by
     exact rf [1,2,5,85] [1,2] (j7 _ (ak h) :)
    replace h:=hu14
    clear hu14
    refine sp 71 h rfl ?_ ?_<;>intro h
    ·refine cq 15 [85] [B true] 403 ?_
     subst h
     exact rf [1,2,5,85] [1,2] (j14 :)
    ·refine cq 4 [75] [B (e3.Kind != 1)] 243 ?_
     obtain⟨u15,hu15,h⟩:=lJ h
     have j15:Run ix 0 (eb (c_1,i_2) r) (.code xY::.code tJ::[]) (sT 114 [(1,I i_2),(2,.hp 1 0 [] 2 0 0),(5,.hp 2 0 [] 12 0 0),(85,B u15)] [⟨0,2,[aa c_1]⟩,⟨0,12,[az e3]⟩] 3):=by
      subst h
      exact rf [1,2,5,85] [1,2] (j14 :)
     replace h:=hu15
     clear hu15
     refine sp 75 h rfl ?_ ?_<;>intro h
     ·refine cq 4 [79] [B (e3.Amount != 0)] 307 ?_
      obtain⟨u16,hu16,h⟩:=lJ h
      have j16:Run ix 0 (eb (c_1,i_2) r) (.code xY::.code tJ::[]) (sT 114 [(1,I i_2),(2,.hp 1 0 [] 2 0 0),(5,.hp 2 0 [] 12 0 0),(85,B u16)] [⟨0,2,[aa c_1]⟩,⟨0,12,[az e3]⟩] 3):=by
       subst h
       exact rf [1,2,5,85] [1,2] (j15 :)
      replace h:=hu16
      clear hu16
      refine sp 79 h rfl ?_ ?_<;>intro h
      ·refine cq 7 [85] [B true] 403 ?_
       subst h
       exact rf [1,2,5,85] [1,2] (j16 :)
      ·refine cq 7 [85] [B (e3.Within != 0)] 403 ?_
       subst h
       exact rf [1,2,5,85] [1,2] (j16 :)
     ·refine cq 11 [85] [B false] 403 ?_
      subst h
      exact rf [1,2,5,85] [1,2] (j15 :)
 have r5:∀r',y5=.inl r'→∀st,eb (c_1,i_2) r' st→(eb (c_1,i_2) r) st:=fun r' e st hq=>by rw[hy51 r' e] at hq;exact hq
 replace h:=hy5
 refine sp 20 h rfl ?_ ?_<;>intro h
 ·refine cq 41 [60] [B true] 929 ?_
  exact rf [1,2,5,60] [1,113] (j5 _ (ak h) :)
 ·refine cq 2 [22] [str e3.Action] 321 ?_
  obtain⟨r17,hr17,h⟩:=bS h
  refine oy 337 (B r17) rfl (cP (qY hr17)) ?_
  refine cq 3 [26] [B (!r17)] 385 ?_
  obtain⟨y18,hy18,hy181,hy182⟩:=bL h
  have j18:∀u18,y18=.inr u18→Run ix 0 (eb (c_1,i_2) r) (.code qO::.code no::[]) (sT 114 [(1,I i_2),(2,.hp 1 0 [] 2 0 0),(5,.hp 2 0 [] 12 0 0),(60,B u18)] [⟨0,2,[aa c_1]⟩,⟨0,12,[az e3]⟩] 3):=by
   intro u18 hu
   replace h:=hy182 u18 hu
   exact rf [1,2,5,60] [1,2] (j5 _ (ak h) :)
  have r18:∀r',y18=.inl r'→∀st,eb (c_1,i_2) r' st→(eb (c_1,i_2) r) st:=fun r' e st hq=>r5 r' (hy181 r' e) st hq
  replace h:=hy18
  refine sp 26 h rfl ?_ ?_<;>intro h
  ·refine cq 35 [60] [B true] 929 ?_
   exact rf [1,2,5,60] [1,113] (j18 _ (ak h) :)
  ·refine cq 2 [28] [I e3.Kind] 417 ?_
   obtain⟨r19,hr19,h⟩:=bS h
   refine oy 433 (B r19) rfl (cP (eu hr19)) ?_
   refine cq 3 [32] [B (!r19)] 481 ?_
   obtain⟨y20,hy20,hy201,hy202⟩:=bL h
   have j20:∀u20,y20=.inr u20→Run ix 0 (eb (c_1,i_2) r) (.code qO::.code no::[]) (sT 114 [(1,I i_2),(2,.hp 1 0 [] 2 0 0),(5,.hp 2 0 [] 12 0 0),(60,B u20)] [⟨0,2,[aa c_1]⟩,⟨0,12,[az e3]⟩] 3):=by
    intro u20 hu
    replace h:=hy202 u20 hu
    exact rf [1,2,5,60] [1,2] (j18 _ (ak h) :)
   have r20:∀r',y20=.inl r'→∀st,eb (c_1,i_2) r' st→(eb (c_1,i_2) r) st:=fun r' e st hq=>r18 r' (hy201 r' e) st hq
   replace h:=hy20
   refine sp 32 h rfl ?_ ?_<;>intro h
   ·refine cq 29 [60] [B true] 929 ?_
    exact rf [1,2,5,60] [1,113] (j20 _ (ak h) :)
   ·refine cq 4 [34,36] [I e3.Party,I (ai ((len c_1.Parties) - 1))] 545 ?_
    obtain⟨r21,hr21,h⟩:=bS h
    refine oy 561 (B r21) rfl (cP (eu hr21)) ?_
    refine cq 3 [40] [B (!r21)] 609 ?_
    obtain⟨y22,hy22,hy221,hy222⟩:=bL h
    have j22:∀u22,y22=.inr u22→Run ix 0 (eb (c_1,i_2) r) (.code qO::.code no::[]) (sT 114 [(1,I i_2),(2,.hp 1 0 [] 2 0 0),(5,.hp 2 0 [] 12 0 0),(60,B u22)] [⟨0,2,[aa c_1]⟩,⟨0,12,[az e3]⟩] 3):=by
     intro u22 hu
     replace h:=hy222 u22 hu
     exact rf [1,2,5,60] [1,2] (j20 _ (ak h) :)
    have r22:∀r',y22=.inl r'→∀st,eb (c_1,i_2) r' st→(eb (c_1,i_2) r) st:=fun r' e st hq=>r20 r' (hy221 r' e) st hq
    replace h:=hy22
    refine sp 40 h rfl ?_ ?_<;>intro h
    ·refine cq 21 [60] [B true] 929 ?_
     exact rf [1,2,5,60] [1,113] (j22 _ (ak h) :)
    ·refine cq 4 [42,44] [I e3.Other,I (ai ((len c_1.Parties) - 1))] 673 ?_
     obtain⟨r23,hr23,h⟩:=bS h
     refine oy 689 (B r23) rfl (cP (eu hr23)) ?_
     refine cq 3 [48] [B (!r23)] 737 ?_
     obtain⟨y24,hy24,hy241,hy242⟩:=bL h
     have j24:∀u24,y24=.inr u24→Run ix 0 (eb (c_1,i_2) r) (.code qO::.code no::[]) (sT 114 [(1,I i_2),(2,.hp 1 0 [] 2 0 0),(5,.hp 2 0 [] 12 0 0),(60,B u24)] [⟨0,2,[aa c_1]⟩,⟨0,12,[az e3]⟩] 3):=by
      intro u24 hu
      replace h:=hy242 u24 hu
      exact rf [1,2,5,60] [1,2] (j22 _ (ak h) :)
     have r24:∀r',y24=.inl r'→∀st,eb (c_1,i_2) r' st→(eb (c_1,i_2) r) st:=fun r' e st hq=>r22 r' (hy241 r' e) st hq
     replace h:=hy24
     refine sp 48 h rfl ?_ ?_<;>intro h
     ·refine cq 13 [60] [B true] 929 ?_
      exact rf [1,2,5,60] [1,113] (j24 _ (ak h) :)
     ·refine cq 7 [55] [B (e3.Party==e3.Other)] 849 ?_
      obtain⟨y25,hy25,hy251,hy252⟩:=bL h
      have j25:∀u25,y25=.inr u25→Run ix 0 (eb (c_1,i_2) r) (.code qO::.code no::[]) (sT 114 [(1,I i_2),(2,.hp 1 0 [] 2 0 0),(5,.hp 2 0 [] 12 0 0),(60,B u25)] [⟨0,2,[aa c_1]⟩,⟨0,12,[az e3]⟩] 3):=by
       intro u25 hu
       replace h:=hy252 u25 hu
       exact rf [1,2,5,60] [1,2] (j24 _ (ak h) :)
      have r25:∀r',y25=.inl r'→∀st,eb (c_1,i_2) r' st→(eb (c_1,i_2) r) st:=fun r' e st hq=>r24 r' (hy251 r' e) st hq
      replace h:=hy25
      refine sp 55 h rfl ?_ ?_<;>intro h
      ·refine cq 6 [60] [B true] 929 ?_
       exact rf [1,2,5,60] [1,113] (j25 _ (ak h) :)
      ·refine cq 2 [57] [ao e3.When] 881 ?_
       obtain⟨r26,hr26,h⟩:=bS h
       refine oy 897 (B r26) rfl (cP (abm hr26)) ?_
       refine cq 3 [60] [B (!r26)] 929 ?_
       exact rf [1,2,5,60] [1,113] (j25 _ (ak h) :)
theorem SX {G:Go.Ln.Ground}:aV Tryz.prog G 131 BX:=gT 2 0 (aM rL (aM gO (aM Ia (aM SL bF)))) ci Tryz.func131 (fun a r h=>V6 a.1 a.2 r h)
noncomputable def E4:((List ac)×ac)→List V:=cA (rC 1 str) (oA str)
noncomputable def E5 (r:(List ac)):V×List V:=(.usl 1 (r.map str),[.dead])
noncomputable def uU:Ent:=bm [true,false] E4 E5 fun x=>wL x.1 x.2
theorem KX {l_8:List ac}{s_9:ac}{r}(h:wL l_8 s_9=some r):uU.F (E4 (l_8,s_9))=some (E5 r):=aI (aU (iQ bQ) (aJ bQ)) h
noncomputable def qZ:Code:=aG Tryz.f188
noncomputable def wM:Env:=b7 Tryz.prog []
noncomputable def tF (x:(List ac)×ac)(r:(List ac)):St→Prop:=QF wM Tryz.f188 [true,false] (E4 x) (E5 r)
theorem Nn (l_8:List ac)(s_9:ac):cj wM 1 (tF (l_8,s_9)) (cL (cL (cL (cR (cR qZ))))) 0 (tG l_8 s_9) (fun u=>(sO 45 [(0,.hs 2 0 [] 1 0 (u.2.2.map str).length),(1,str u.1),(5,I u.2.1)] [none,some ⟨0,1,u.2.2.map str⟩] 3)) fun x3=>(sO 45 [(0,.hs 2 0 [] 1 0 (l_8.map str).length),(1,str s_9),(5,I x3)] [none,some ⟨0,1,l_8.map str⟩] 3):=ef (zx l_8 s_9) fun {Q K} hK self ih x3 y h hr hn=>by
 unfold lr at h
 refine cq 5 [6,7] [I x3,.hs 2 0 [] 1 0 (l_8.map str).length] 35 ?_
 refine oq 51 (I (len l_8)) rfl (bu rfl rfl rfl (qv (f:=str) (xs:=l_8) rfl rfl)) ?_
 refine cq 2 [10] [B (decide (x3<(len l_8)))] 83 ?_
 obtain⟨y4,hy4,hy41,hy42⟩:=bL h
 have j4:∀u4,y4=.inr u4→Run wM 1 Q (.code (cR (cL (cL (cL (cL (cR (cR qZ)))))))::.code (cR (cL (cL (cL (cR (cR qZ))))))::.lp (cL (cL (cL (cR (cR qZ)))))::.blk 0::K) (sO 45 [(0,.hs 2 0 [] 1 0 (l_8.map str).length),(1,str s_9),(5,I x3),(17,B u4)] [none,some ⟨0,1,l_8.map str⟩] 3):=by
  intro u4 hu
  replace h:=hy42 u4 hu
  refine sq h ?_ ?_<;>intro h
  ·refine aq 1 ?_
   refine cq 7 [5] [I (ai (x3+1))] 51 ?_
   refine cZ ?_
   exact rg [0,1,5] [52,2] (ih _ _ h hr hn :)
  ·refine aq 1 ?_
   exact rg [0,1,5] [4,2] (hn _ (ak h) :) (hk:=hK)
 have r4:∀r',y4=.inl r'→∀st,tF (l_8,s_9) r' st→Q st:=fun r' e st hq=>hr r' (hy41 r' e) st hq
 replace h:=hy4
 refine sp 10 h rfl ?_ ?_<;>intro h
 ·refine cq 2 [11,12] [.hs 2 0 [] 1 0 (l_8.map str).length,I x3] 115 ?_
  obtain⟨e5,he5,h⟩:=bS h
  refine oy 131 (.hp 2 0 [] 1 (0+Int.toNat x3) 0) rfl (aj rfl rfl rfl (dD (f:=str) (xs:=l_8) rfl rfl rfl he5)) ?_
  refine oy 147 (str e5) rfl (aN rfl (fH (path:=[]) rfl rfl rfl aW (cS (f:=str) (xs:=l_8) he5) rfl rfl rfl)) ?_
  refine cq 4 [17] [B (Op.bytesLess e5 s_9)] 195 ?_
  exact rg [0,1,5,17] [196,2] (j4 _ (ak h) :)
 ·refine cq 8 [17] [B false] 195 ?_
  exact rg [0,1,5,17] [196,2] (j4 _ (ak h) :)
theorem V2 (l_8:List ac)(s_9:ac)(r:(List ac))(h:wL l_8 s_9=some r):bA wM Tryz.f188 [true,false] 1 (E4 (l_8,s_9)) (E5 r):=by
 show Run _ _ (tF (l_8,s_9) r) [.code qZ] _
 refine rI 45 [(0,.hs 1 0 [] 1 0 (l_8.map str).length),(1,str s_9)] [(1,some ⟨0,1,l_8.map str⟩)] 2 ?_
 unfold wL at h
 refine cq 10 [5] [I (0)] 34 ?_
 obtain⟨y6,hy6,hy61,hy62⟩:=bJ h
 refine bN rfl ?_
 refine rg [0,1,5] [35,1] (Nn l_8 s_9 rfl 0 _ hy6 (fun r' e st hq=>by rw[hy61 r' e] at hq;exact hq) fun u6 hu=>?_)
 replace h:=hy62 u6 hu
 refine cq 5 [20,21] [I u6.2.1,.hs 2 0 [] 1 0 (u6.2.2.map str).length] 35 ?_
 refine oq 51 (I (len u6.2.2)) rfl (bu rfl rfl rfl (qv (f:=str) (xs:=u6.2.2) rfl rfl)) ?_
 refine cq 2 [24] [B (decide (u6.2.1<(len u6.2.2)))] 83 ?_
 obtain⟨y7,hy7,hy71,hy72⟩:=bJ h
 have j7:∀u7,y7=.inr u7→Run wM 1 (tF (l_8,s_9) r) (.code (cR (cL (cR (cR (cR qZ)))))::.code (cR (cR (cR (cR qZ))))::[]) (sO 45 [(0,.hs 2 0 [] 1 0 (u6.2.2.map str).length),(1,str u6.1),(5,I u6.2.1),(31,B u7)] [none,some ⟨0,1,u6.2.2.map str⟩] 3):=by
  intro u7 hu
  replace h:=hy72 u7 hu
  refine sq h ?_ ?_<;>intro h
  ·refine cq 5 [4] [.hs 2 0 [] 1 0 (u6.2.2.map str).length] 35 ?_
   obtain rfl:=Option.some.inj h
   exact co rfl ⟨_,fin (vs:=[.hs 2 0 [] 1 0 (u6.2.2.map str).length]) rfl (gp (gc rfl (dV rfl rfl)) eB) rfl (lK rfl (qz rfl) (dj fw)),vv fp⟩
  ·refine aq 1 ?_
   refine aq 1 ?_
   refine dK [0,0,0,6,15,0,32,127,0,0,768,2047,4095] rfl (by decide +kernel) ?_
   refine dq [] [] (.hs 3 0 [] 1 0 0) rfl (fa rfl (mu (f:=I) (xs:=[]) (z:=str ([])) (es:=[]) (ws:=[]) rfl rfl rfl (by decide) rfl (ed rfl) rfl)) ?_
   refine dk 2 [35,34] [I u6.2.1,.hs 2 0 [] 1 0 (u6.2.2.map str).length] ?_
   obtain⟨s8,hs8,h⟩:=bS h
   refine dq [2] [] (.hs 2 0 [] 1 (0+Int.toNat (0)) (Int.toNat u6.2.1 - Int.toNat (0))) rfl (hY rfl rfl rfl rfl (uu (f:=str) (xs:=u6.2.2) rfl rfl rfl rfl rfl hs8)) ?_
   obtain⟨p9,hp9,h⟩:=bS h
   obtain⟨a10,ha10,h⟩:=bS h
   refine dq [3,2] [3] (.hs 67 0 [] 1 0 (a10.map str).length) rfl (kf rfl rfl rfl rfl rfl (nT (path:=[]) (es0:=[]) (f:=str) (xs:=([]:List ac)) (ys:=p9) rfl rfl (OH (path:=[]) (f:=str) (xs:=u6.2.2) rfl rfl aW hp9 mK) rfl rfl rfl rfl rfl (by decide) lP ha10 rfl rB)) ?_ (GY rfl (F8 (path:=[]) (f:=str) (xs:=u6.2.2) rfl rfl aW mK rfl))
   refine dk 1 [38] [str u6.1] ?_
   refine dq [] [] (.hs 99 0 [] 1 0 1) rfl (fa rfl (mu (f:=I) (xs:=[]) (z:=str ([])) (es:=[str u6.1]) (ws:=[str u6.1]) rfl rfl rfl (by decide) rfl (ed rfl) rfl)) ?_
   obtain⟨a11,ha11,h⟩:=bS h
   refine dq [67,99] [67] (.hs 115 0 [] 1 0 (a11.map str).length) rfl (kf rfl rfl rfl rfl rfl (nT (path:=[]) (f:=str) (xs:=a10) (ys:=[u6.1]) rfl rfl (uz rfl rfl rfl) rfl rfl rfl aW rfl (by decide) lP ha11 rfl rB)) ?_ (GY rfl (F8 (path:=[]) (f:=str) (xs:=[u6.1]) rfl rfl aW mK rfl))
   refine dk 2 [42,41] [I u6.2.1,.hs 2 0 [] 1 0 (u6.2.2.map str).length] ?_
   obtain⟨s12,hs12,h⟩:=bS h
   refine dq [2] [] (.hs 2 0 [] 1 (0+Int.toNat u6.2.1) (Int.toNat (len u6.2.2) - Int.toNat u6.2.1)) rfl (hY rfl rfl rfl rfl (uu (f:=str) (xs:=u6.2.2) rfl rfl rfl rfl (WI rfl) hs12)) ?_
   obtain⟨p13,hp13,h⟩:=bS h
   obtain⟨a14,ha14,h⟩:=bS h
   refine dq [115,2] [115] (.hs 179 0 [] 1 0 (a14.map str).length) rfl (kf rfl rfl rfl rfl rfl (nT (path:=[]) (f:=str) (xs:=a11) (ys:=p13) rfl rfl (OH (path:=[]) (f:=str) (xs:=u6.2.2) rfl rfl aW hp13 mK) rfl rfl rfl aW rfl (by decide) lP ha14 rfl rB)) ?_ (GY rfl (F8 (path:=[]) (f:=str) (xs:=u6.2.2) rfl rfl aW mK rfl))
   refine dk 1 [4] [.hs 179 0 [] 1 0 (a14.map str).length] ?_
   refine de 211 rfl rfl ?_
   obtain rfl:=Option.some.inj h
   exact co rfl ⟨_,fin (vs:=[.hs 179 0 [] 1 0 (a14.map str).length]) rfl (gp (gc rfl (dV rfl rfl)) eB) rfl (lK rfl (qz rfl) (dj fw)),vv fp⟩
 have r7:∀r',y7=.inl r'→∀st,tF (l_8,s_9) r' st→(tF (l_8,s_9) r) st:=fun r' e st hq=>by rw[hy71 r' e] at hq;exact hq
 replace h:=hy7
 refine sp 24 h rfl ?_ ?_<;>intro h
 ·refine cq 2 [25,26] [.hs 2 0 [] 1 0 (u6.2.2.map str).length,I u6.2.1] 115 ?_
  obtain⟨e15,he15,h⟩:=bS h
  refine oy 131 (.hp 2 0 [] 1 (0+Int.toNat u6.2.1) 0) rfl (aj rfl rfl rfl (dD (f:=str) (xs:=u6.2.2) rfl rfl rfl he15)) ?_
  refine oy 147 (str e15) rfl (aN rfl (fH (path:=[]) rfl rfl rfl aW (cS (f:=str) (xs:=u6.2.2) he15) rfl rfl rfl)) ?_
  refine cq 4 [31] [B (e15==u6.1)] 195 ?_
  exact rg [0,1,5,31] [196,2] (j7 _ (ak h) :)
 ·refine cq 8 [31] [B false] 195 ?_
  exact rg [0,1,5,31] [196,2] (j7 _ (ak h) :)
theorem H9 {G:Go.Ln.Ground}:aV Tryz.prog G 188 uU:=gT 2 1 bF ci Tryz.func188 (fun a r h=>V2 a.1 a.2 r h)
noncomputable def wI:((List ac)×Condition)→List V:=cA (rC 1 str) (oA bB)
noncomputable def wJ (r:(List ac)):V×List V:=(.usl 1 (r.map str),[.dead])
noncomputable def wK (ct:((List ac)×Condition)→Option (List ac)):Ent:=bm [true,false] wI wJ ct
theorem N2 (ct:((List ac)×Condition)→Option (List ac)){x}{r}(h:ct x=some r):(wK ct).F (wI x)=some (wJ r):=aI (aU (iQ bQ) (aJ dt)) h
noncomputable def BT:Ent:=wK (aK lq)
theorem SO {l_4:List ac}{c_5:Condition}{r}(h:KV l_4 c_5=some r):BT.F (wI (l_4,c_5))=some (wJ r):=N2 (aK lq) h
noncomputable def SQ:Code:=aG Tryz.f187
noncomputable def KW (ct:((List ac)×Condition)→Option (List ac)):Env:=b7 Tryz.prog [(188,uU),(187,(wK ct))]
noncomputable def SP (ct:((List ac)×Condition)→Option (List ac))(x:(List ac)×Condition)(r:(List ac)):St→Prop:=QF (KW ct) Tryz.f187 [true,false] (wI x) (wJ r)
theorem Nm (ct:((List ac)×Condition)→Option (List ac))(l_4:List ac)(c_5:Condition):cj (KW ct) 1 (SP ct (l_4,c_5)) (cL (cL (cR (cL (cR (cR SQ)))))) 0 (lV ct l_4 c_5) (fun u=>(sO 28 [(0,.hs 2 0 [] 1 0 (u.map str).length)] [none,some ⟨0,1,u.map str⟩] 3)) fun x4=>(sO 28 [(0,.hs 2 0 [] 1 0 (x4.2.map str).length),(3,.hp 3 0 [] 4 0 0),(5,I x4.1)] [none,some ⟨0,1,x4.2.map str⟩,some ⟨0,4,[ao c_5]⟩] 4):=ef (zw ct l_4 c_5) fun {Q K} hK self ih x4 y h hr hn=>by
 unfold jV at h
 refine cq 6 [13,15] [I x4.1,.isl false (c_5.Parts.map aE)] 52 ?_
 refine oq 68 (I (len c_5.Parts)) rfl (bu rfl rfl rfl (bI rfl)) ?_
 refine cq 2 [17] [B (decide (x4.1<(len c_5.Parts)))] 84 ?_
 refine sq h ?_ ?_<;>intro h
 ·refine aq 1 ?_
  refine cq 7 [20,22,23] [.hs 2 0 [] 1 0 (x4.2.map str).length,.isl false (c_5.Parts.map aE),I x4.1] 148 ?_
  obtain⟨e5,he5,h⟩:=bS h
  refine oq 164 (.iptr (ao e5) 0) rfl (aj rfl rfl rfl (bd rfl rfl (dm e5) rfl he5)) ?_
  refine cq 1 [25] [ao e5] 180 ?_
  obtain⟨r6,hr6,h⟩:=bS h
  refine oq 196 (.hs 180 0 [] 1 0 (r6.map str).length) rfl (cm rfl rfl (cU rfl rfl rfl (kV (jY rfl (f6 (path:=[]) rfl rfl aW rfl)) (bC (cg rfl) dM)) (N2 ct hr6) (.inr rfl) (jg rfl rfl rfl nA ew) rfl rfl rfl)) ?_
  refine cq 8 [0,5] [.hs 180 0 [] 1 0 (r6.map str).length,I (ai (x4.1+1))] 260 ?_
  refine cZ ?_
  exact rg [0,3,5] [261,180,3] (ih _ _ h hr hn :)
 ·refine aq 1 ?_
  exact rg [0] [85,2] (hn _ (ak h) :) (hk:=hK)
theorem V1 (ct:((List ac)×Condition)→Option (List ac))(l_4:List ac)(c_5:Condition)(r:(List ac))(h:tE ct l_4 c_5=some r):bA (KW ct) Tryz.f187 [true,false] 1 (wI (l_4,c_5)) (wJ r):=by
 show Run _ _ (SP ct (l_4,c_5) r) [.code SQ] _
 refine rI 28 [(0,.hs 1 0 [] 1 0 (l_4.map str).length),(1,ao c_5)] [(1,some ⟨0,1,l_4.map str⟩)] 2 ?_
 unfold tE at h
 refine ck 12 [3,8] [] [2] [] [.hp 2 0 [] 4 0 0,B (c_5.Op==2)] [some ⟨0,4,[ao c_5]⟩] 82 (by kernel_rfl) ?_
 refine sq h ?_ ?_<;>intro h
 ·refine cq 5 [9,11] [.hs 1 0 [] 1 0 (l_4.map str).length,str c_5.Name] 130 ?_
  obtain⟨r3,hr3,h⟩:=bS h
  refine oq 146 (.hs 130 0 [] 1 0 (r3.map str).length) rfl (cm rfl rfl (cU rfl rfl rfl (kV (jY rfl (f6 (path:=[]) rfl rfl aW rfl)) (bC (cg rfl) dM)) (KX hr3) (.inr rfl) (jg rfl rfl rfl nA ew) rfl rfl rfl)) ?_
  refine cq 2 [4] [.hs 130 0 [] 1 0 (r3.map str).length] 162 ?_
  obtain rfl:=Option.some.inj h
  exact co rfl ⟨_,fin (vs:=[.hs 130 0 [] 1 0 (r3.map str).length]) rfl (gp (gc rfl (dV rfl rfl)) eB) rfl (lK rfl (qz rfl) (dj fw)),vv fp⟩
 ·refine aq 1 ?_
  refine cq 6 [5] [I (0)] 98 ?_
  obtain⟨y7,hy7,hy71,hy72⟩:=bJ h
  refine bN rfl ?_
  refine rg [0,3,5] [99,1,2] (Nm ct l_4 c_5 rfl (0,l_4) _ hy7 (fun r' e st hq=>by rw[hy71 r' e] at hq;exact hq) fun u7 hu=>?_)
  replace h:=hy72 u7 hu
  refine cq 5 [4] [.hs 2 0 [] 1 0 (u7.map str).length] 35 ?_
  obtain rfl:=Option.some.inj h
  exact co rfl ⟨_,fin (vs:=[.hs 2 0 [] 1 0 (u7.map str).length]) rfl (gp (gc rfl (dV rfl rfl)) eB) rfl (lK rfl (qz rfl) (dj fw)),vv fp⟩
theorem SR {G:Go.Ln.Ground}:aV Tryz.prog G 187 BT:=km fun ct g_Ffdq=>gT 2 1 (aM H9 (aM g_Ffdq bF)) ci Tryz.func187 (fun a r h=>V1 ct a.1 a.2 r h)
noncomputable def Fk:Contract→List V:=oA aX
noncomputable def Fl (r:(List ac)):V×List V:=(.usl 1 (r.map str),[])
noncomputable def uX:Ent:=bm [false] Fk Fl fun x=>qb x
theorem S4 {c_1:Contract}{r}(h:qb c_1=some r):uX.F (Fk c_1)=some (Fl r):=aI (aJ bn) h
noncomputable def S6:Code:=aG Tryz.f132
noncomputable def K5:Env:=b7 Tryz.prog [(188,uU),(187,BT)]
noncomputable def S5 (x:Contract)(r:(List ac)):St→Prop:=QF K5 Tryz.f132 [false] (Fk x) (Fl r)
theorem Ns (c_1:Contract):cj K5 0 (S5 c_1) (cL (cL (cR (cL (cR (cR S6)))))) 0 (nr c_1) (fun u=>(sT 29 [(3,.hs 1 0 [] 1 0 (u.map str).length)] [⟨0,1,u.map str⟩] 2)) fun x2=>(sT 29 [(1,.hp 1 0 [] 2 0 0),(3,.hs 2 0 [] 1 0 (x2.2.map str).length),(4,I x2.1)] [⟨0,2,[aa c_1]⟩,⟨0,1,x2.2.map str⟩] 3):=ef (zC c_1) fun {Q K} hK self ih x2 y h hr hn=>by
 unfold lw at h
 refine cq 6 [6,8] [I x2.1,.isl false (c_1.Clauses.map au)] 51 ?_
 refine oq 67 (I (len c_1.Clauses)) rfl (bu rfl rfl rfl (bI rfl)) ?_
 refine cq 2 [10] [B (decide (x2.1<(len c_1.Clauses)))] 83 ?_
 refine sq h ?_ ?_<;>intro h
 ·refine aq 1 ?_
  refine aq 2 ?_
  refine dK [0,0,2,0,14,30,62,127,0,256,0,1792,3840,7936,16383,32767] rfl (by decide +kernel) ?_
  refine dk 1 [13] [.hs 2 0 [] 1 0 (x2.2.map str).length] ?_
  refine dq [1] [] (.hp 1 0 [] 2 0 1) rfl (an rfl rfl rfl) ?_
  refine dq [1] [] (.isl false (c_1.Clauses.map au)) rfl (aN rfl rfl) ?_
  refine dk 1 [16] [I x2.1] ?_
  obtain⟨e3,he3,h⟩:=bS h
  refine dq [] [] (.iptr (az e3) 0) rfl (aj rfl rfl rfl (bd rfl rfl rfl rfl he3)) ?_
  refine dq [] [] (.iptr (az e3) 3) rfl (an rfl rfl rfl) ?_
  refine dq [] [] (str e3.Action) rfl (aN rfl rfl) ?_
  obtain⟨r4,hr4,h⟩:=bS h
  refine dq [2] [2] (.hs 195 0 [] 1 0 (r4.map str).length) rfl (cm rfl rfl (cU rfl rfl rfl (kV (jY rfl (f6 (path:=[]) rfl rfl aW rfl)) (bC (cg rfl) dM)) (KX hr4) (.inr rfl) (jg rfl rfl rfl nA ew) rfl rfl rfl)) ?_ (dU rfl rfl rfl rfl (kV (jY rfl (f6 (path:=[]) rfl rfl aW rfl)) (bC (cg rfl) dM)) (KX hr4) (.inr rfl) rfl)
  refine dq [1] [] (.hp 1 0 [] 2 0 1) rfl (an rfl rfl rfl) ?_
  refine dq [1] [] (.isl false (c_1.Clauses.map au)) rfl (aN rfl rfl) ?_
  refine dk 1 [23] [I x2.1] ?_
  obtain⟨e5,he5,h⟩:=bS h
  refine dq [] [] (.iptr (az e5) 0) rfl (aj rfl rfl rfl (bd rfl rfl rfl rfl he5)) ?_
  refine dq [] [] (.iptr (az e5) 6) rfl (an rfl rfl rfl) ?_
  refine dq [] [] (ao e5.When) rfl (aN rfl rfl) ?_
  obtain⟨r6,hr6,h⟩:=bS h
  refine dq [195] [195] (.hs 307 0 [] 1 0 (r6.map str).length) rfl (cm rfl rfl (cU rfl rfl rfl (kV (jY rfl (f6 (path:=[]) rfl rfl aW rfl)) (bC (cg rfl) dM)) (SO hr6) (.inr rfl) (jg rfl rfl rfl nA ew) rfl rfl rfl)) ?_ (dU rfl rfl rfl rfl (kV (jY rfl (f6 (path:=[]) rfl rfl aW rfl)) (bC (cg rfl) dM)) (SO hr6) (.inr rfl) rfl)
  refine dk 1 [3] [.hs 307 0 [] 1 0 (r6.map str).length] ?_
  refine de 339 rfl rfl ?_
  refine cq 6 [4] [I (ai (x2.1+1))] 387 ?_
  refine cZ ?_
  exact rf [1,3,4] [1,307] (ih _ _ h hr hn :)
 ·refine aq 1 ?_
  exact rf [3] [2] (hn _ (ak h) :) (hk:=hK)
theorem Wa (c_1:Contract)(r:(List ac))(h:qb c_1=some r):bA K5 Tryz.f132 [false] 0 (Fk c_1) (Fl r):=by
 show Run _ _ (S5 c_1 r) [.code S6] _
 refine rI 29 [(0,aa c_1)] [] 1 ?_
 unfold qb at h
 refine ck 7 [1] [] [1] [] [.hp 1 0 [] 2 0 0] [some ⟨0,2,[aa c_1]⟩] 33 (by kernel_rfl) ?_
 refine oq 49 (.hs 33 0 [] 1 0 0) rfl (fa rfl (mu (f:=I) (xs:=[]) (z:=str ([])) (es:=[]) (ws:=[]) rfl rfl rfl (by decide) rfl (ed rfl) rfl)) ?_
 refine cq 8 [3,4] [.hs 33 0 [] 1 0 0,I (0)] 81 ?_
 obtain⟨y7,hy7,hy71,hy72⟩:=bJ h
 refine bN rfl ?_
 refine rf [1,3,4] [1,33] (Ns c_1 rfl (0,[]) _ hy7 (fun r' e st hq=>by rw[hy71 r' e] at hq;exact hq) fun u7 hu=>?_)
 replace h:=hy72 u7 hu
 refine cq 5 [2] [.hs 1 0 [] 1 0 (u7.map str).length] 34 ?_
 obtain rfl:=Option.some.inj h
 exact co rfl ⟨_,fin (vs:=[.hs 1 0 [] 1 0 (u7.map str).length]) rfl (gp (gc rfl (dV rfl rfl)) eB) rfl (dj fw),fp⟩
theorem Ib {G:Go.Ln.Ground}:aV Tryz.prog G 132 uX:=gT 1 0 (aM H9 (aM SR bF)) ci Tryz.func132 (fun a r h=>Wa a r h)
noncomputable def Fg:Contract→List V:=oA aX
noncomputable def Fh (r:Bool):V×List V:=(B r,[])
noncomputable def B2:Ent:=bm [false] Fg Fh fun x=>B1 x
theorem abq {c_1:Contract}{r}(h:B1 c_1=some r):B2.F (Fg c_1)=some (Fh r):=aI (aJ bn) h
noncomputable def Fi:Code:=aG Tryz.f62
noncomputable abbrev xZ:Code:=cL (cL (cR (cL (cR (cR Fi)))))
noncomputable def wV:Env:=b7 Tryz.prog [(128,fO),(130,uW),(131,BX),(132,uX),(129,B3)]
noncomputable def tM (x:Contract)(r:Bool):St→Prop:=QF wV Tryz.f62 [false] (Fg x) (Fh r)
theorem Nr (c_1:Contract):cj wV 0 (tM c_1) xZ 0 (lX c_1) (fun u=>(sT 41 [(1,.hp 1 0 [] 2 0 0)] [⟨0,2,[aa c_1]⟩] 2)) fun x4=>(sT 41 [(1,.hp 1 0 [] 2 0 0),(3,I x4)] [⟨0,2,[aa c_1]⟩] 2):=ef (zB c_1) fun {Q K} hK self ih x4 y h hr hn=>by
 unfold lu at h
 refine cq 6 [14,16] [I x4,.isl false (c_1.Clauses.map au)] 50 ?_
 refine oq 66 (I (len c_1.Clauses)) rfl (bu rfl rfl rfl (bI rfl)) ?_
 refine cq 2 [18] [B (decide (x4<(len c_1.Clauses)))] 82 ?_
 refine sq h ?_ ?_<;>intro h
 ·refine aq 1 ?_
  refine aq 3 ?_
  refine dK [0,0,2,0,14,30,62,127,0,511,1023,2047,2047,8191,16383,32767] rfl (by decide +kernel) ?_
  refine dq [1] [] (aa c_1) rfl (aN rfl rfl) ?_
  refine dq [1] [] (.hp 1 0 [] 2 0 1) rfl (an rfl rfl rfl) ?_
  refine dq [1] [] (.isl false (c_1.Clauses.map au)) rfl (aN rfl rfl) ?_
  refine dk 1 [24] [I x4] ?_
  obtain⟨e5,he5,h⟩:=bS h
  refine dq [] [] (.iptr (az e5) 0) rfl (aj rfl rfl rfl (bd rfl rfl rfl rfl he5)) ?_
  refine dq [] [] (.iptr (az e5) 0) rfl (an rfl rfl rfl) ?_
  refine dq [] [] (str e5.Id) rfl (aN rfl rfl) ?_
  obtain⟨r6,hr6,h⟩:=bS h
  refine dq [] [] (I r6) rfl (cP (K4 hr6)) ?_ (dU rfl rfl rfl rfl (bC (cg rfl) (bC (cg rfl) dM)) (K4 hr6) (.inr rfl) rfl)
  refine dk 3 [31,30,29] [B (r6 != x4),B (r6 != x4),I x4] ?_
  obtain⟨y7,hy7,hy71,hy72⟩:=bL h
  have j7:∀u7,y7=.inr u7→Run wV 0 Q (.code (cR (cL (cL (cR xZ))))::.blk 1::.code (cR (cR xZ))::.lp xZ::.blk 0::K) (sT 41 [(1,.hp 1 0 [] 2 0 0),(3,I x4),(36,B u7)] [⟨0,2,[aa c_1]⟩] 2):=by
   intro u7 hu
   replace h:=hy72 u7 hu
   refine sq h ?_ ?_<;>intro h
   ·refine cq 4 [2] [B false] 18 ?_
    exact co rfl (hr _ (ak h) _ (qp [B false]))
   ·refine aq 1 ?_
    refine cq 6 [3] [I (ai (x4+1))] 50 ?_
    refine cZ ?_
    exact rf [1,3] [1] (ih _ _ h hr hn :)
  have r7:∀r',y7=.inl r'→∀st,tM c_1 r' st→Q st:=fun r' e st hq=>hr r' (hy71 r' e) st hq
  replace h:=hy7
  refine sp 31 h rfl ?_ ?_<;>intro h
  ·refine dk 5 [36,35,34,33,32] [B true,.und,.und,.und,.und] ?_
   refine de 338 rfl rfl ?_
   exact rf [1,3,36] [1] (j7 _ (ak h) :)
  ·refine dy [1] [] (aa c_1) rfl (aN rfl rfl) ?_
   refine dk 1 [33] [I x4] ?_
   obtain⟨r8,hr8,h⟩:=bS h
   refine dy [] [] (B r8) rfl (cP (SW hr8)) ?_ (dU rfl rfl rfl rfl (bC (cg rfl) (bC (cg rfl) dM)) (SW hr8) (.inr rfl) rfl)
   refine dk 2 [36,35] [B (!r8),B (!r8)] ?_
   refine de 338 rfl rfl ?_
   exact rf [1,3,36] [1] (j7 _ (ak h) :)
 ·refine aq 1 ?_
  exact rf [1] [1] (hn _ (ak h) :) (hk:=hK)
theorem V9 (c_1:Contract)(r:Bool)(h:B1 c_1=some r):bA wV Tryz.f62 [false] 0 (Fg c_1) (Fh r):=by
 show Run _ _ (tM c_1 r) [.code Fi] _
 refine rI 41 [(0,aa c_1)] [] 1 ?_
 unfold B1 at h
 refine ck 10 [1,5] [] [1] [] [.hp 1 0 [] 2 0 0,.isl false (c_1.Clauses.map au)] [some ⟨0,2,[aa c_1]⟩] 65 (by kernel_rfl) ?_
 refine oq 81 (I (len c_1.Clauses)) rfl (bu rfl rfl rfl (bI rfl)) ?_
 obtain⟨r2,hr2,h⟩:=bS h
 refine oq 97 (B r2) rfl (cP (eu hr2)) ?_
 refine cq 2 [9] [B (!r2)] 129 ?_
 obtain⟨y3,hy3,hy31,hy32⟩:=bJ h
 have j3:∀u3,y3=.inr u3→Run wV 0 (tM c_1 r) (.code (cR (cL (cR Fi)))::.code (cR (cR Fi))::[]) (sT 41 [(1,.hp 1 0 [] 2 0 0),(13,B u3)] [⟨0,2,[aa c_1]⟩] 2):=by
  intro u3 hu
  replace h:=hy32 u3 hu
  refine sq h ?_ ?_<;>intro h
  ·refine cq 4 [2] [B false] 18 ?_
   obtain rfl:=Option.some.inj h
   exact rP [B false]
  ·refine aq 1 ?_
   refine cq 6 [3] [I (0)] 18 ?_
   obtain⟨y9,hy9,hy91,hy92⟩:=bJ h
   refine bN rfl ?_
   refine rf [1,3] [1] (Nr c_1 rfl 0 _ hy9 (fun r' e st hq=>by rw[hy91 r' e] at hq;exact hq) fun u9 hu=>?_)
   replace h:=hy92 u9 hu
   refine cq 3 [37] [aa c_1] 18 ?_
   obtain⟨r10,hr10,h⟩:=bS h
   refine oq 34 (.hs 18 0 [] 1 0 (r10.map str).length) rfl (cP (S4 hr10)) ?_
   refine oq 50 (I (len r10)) rfl (bu rfl rfl rfl (qv (f:=str) (xs:=r10) rfl rfl)) ?_
   refine cq 3 [2] [B (decide ((len r10)≤16))] 82 ?_
   obtain rfl:=Option.some.inj h
   exact rP [B (decide ((len r10)≤16))]
 have r3:∀r',y3=.inl r'→∀st,tM c_1 r' st→(tM c_1 r) st:=fun r' e st hq=>by rw[hy31 r' e] at hq;exact hq
 replace h:=hy3
 refine sp 9 h rfl ?_ ?_<;>intro h
 ·refine cq 5 [13] [B true] 193 ?_
  exact rf [1,13] [1] (j3 _ (ak h) :)
 ·refine cq 1 [10] [aa c_1] 145 ?_
  obtain⟨r11,hr11,h⟩:=bS h
  refine oy 161 (B r11) rfl (cP (abr hr11)) ?_
  refine cq 3 [13] [B (!r11)] 193 ?_
  exact rf [1,13] [1] (j3 _ (ak h) :)
theorem S3 {G:Go.Ln.Ground}:aV Tryz.prog G 62 B2:=gT 1 0 (aM gO (aM Ia (aM SX (aM Ib (aM S7 bF))))) ci Tryz.func62 (fun a r h=>V9 a r h)
noncomputable def ER:(List ac)→List V:=oA (fY str)
noncomputable def ET (r:Bool):V×List V:=(B r,[])
noncomputable def BN:Ent:=bm [false] ER ET fun x=>BM x
theorem abj {aw:List ac}{r}(h:BM aw=some r):BN.F (ER aw)=some (ET r):=aI (aJ (ce bQ)) h
noncomputable def SE:Code:=aG Tryz.f142
noncomputable abbrev kK:Code:=cL (cL (cR (cL (cR SE))))
noncomputable def tA:Env:=b7 Tryz.prog [(96,oT)]
noncomputable def ES (x:(List ac))(r:Bool):St→Prop:=QF tA Tryz.f142 [false] (ER x) (ET r)
theorem Ni (aw:List ac):cj tA 0 (ES aw) kK 0 (iO aw) (fun u=>(sT 39 [(0,.isl false (aw.map str))] [] 1)) fun x2=>(sT 39 [(0,.isl false (aw.map str)),(3,I x2)] [] 1):=ef (zq aw) fun {Q K} hK self ih x2 y h hr hn=>by
 unfold jU at h
 refine cq 5 [4,5] [I x2,.isl false (aw.map str)] 33 ?_
 refine oq 49 (I (len aw)) rfl (bu rfl rfl rfl (bI rfl)) ?_
 refine cq 2 [8] [B (decide (x2<(len aw)))] 81 ?_
 obtain⟨u3,hu3,h⟩:=lJ h
 have j3:Run tA 0 Q (.code (cR (cL kK))::.code (cR kK)::.lp kK::.blk 0::K) (sT 39 [(0,.isl false (aw.map str)),(3,I x2),(11,B u3)] [] 1):=by
  refine sq h ?_ ?_<;>intro h
  ·refine aq 1 ?_
   refine aq 3 ?_
   refine dK [0,0,3,7,15,31,63,127,255,511,1023,1023,3071,8191,16383,1023,1023,99327,230399,524287,1048575,2097151] rfl (by decide +kernel) ?_
   refine dk 2 [15,14] [I x2,.isl false (aw.map str)] ?_
   obtain⟨e4,he4,h⟩:=bS h
   refine dq [] [] (.iptr (str e4) 0) rfl (aj rfl rfl rfl (bd rfl rfl rfl rfl he4)) ?_
   refine dq [] [] (str e4) rfl (aN rfl rfl) ?_
   obtain⟨r5,hr5,h⟩:=bS h
   refine dq [] [] (B r5) rfl (cP (qY hr5)) ?_ (dU rfl rfl rfl rfl (bC (cg rfl) dM) (qY hr5) (.inr rfl) rfl)
   refine dk 2 [20,19] [B (!r5),B (!r5)] ?_
   obtain⟨y6,hy6,hy61,hy62⟩:=bL h
   have j6:∀u6,y6=.inr u6→Run tA 0 Q (.code (cR (cL (cL (cR kK))))::.blk 1::.code (cR (cR kK))::.lp kK::.blk 0::K) (sT 39 [(0,.isl false (aw.map str)),(3,I x2),(35,B u6)] [] 1):=by
    intro u6 hu
    replace h:=hy62 u6 hu
    refine sq h ?_ ?_<;>intro h
    ·refine cq 4 [2] [B false] 17 ?_
     exact co rfl (hr _ (ak h) _ (qp [B false]))
    ·refine aq 1 ?_
     refine cq 6 [3] [I (ai (x2+1))] 49 ?_
     refine cZ ?_
     exact rf [0,3] [] (ih _ _ h hr hn :)
   have r6:∀r',y6=.inl r'→∀st,ES aw r' st→Q st:=fun r' e st hq=>hr r' (hy61 r' e) st hq
   replace h:=hy6
   refine sp 20 h rfl ?_ ?_<;>intro h
   ·refine dk 15 [35,34,33,32,31,30,29,28,27,26,25,24,23,22,21] [B true,.und,.und,.und,.und,.und,.und,.und,.und,.und,.und,.und,.und,.und,.und] ?_
    refine de 353 rfl rfl ?_
    exact rf [0,3,35] [] (j6 _ (ak h) :)
   ·refine dk 3 [23,22,21] [B (decide (x2>0)),B (decide (x2>0)),I x2] ?_
    obtain⟨y7,hy7,hy71,hy72⟩:=bL h
    have j7:∀u7,y7=.inr u7→Run tA 0 Q (.code (cR (cL (cL (cR kK))))::.blk 1::.code (cR (cR kK))::.lp kK::.blk 0::K) (sT 39 [(0,.isl false (aw.map str)),(3,I x2),(35,B u7)] [] 1):=by
     intro u7 hu
     replace h:=hy72 u7 hu
     exact rf [0,3,35] [] (j6 _ (ak h) :)
    have r7:∀r',y7=.inl r'→∀st,ES aw r' st→Q st:=fun r' e st hq=>r6 r' (hy71 r' e) st hq
    replace h:=hy7
    refine sp 23 h rfl ?_ ?_<;>intro h
    ·refine dk 3 [26,25,24] [I (ai (x2 - 1)),I x2,.isl false (aw.map str)] ?_
     obtain⟨e8,he8,h⟩:=bS h
     refine dy [] [] (.iptr (str e8) 0) rfl (aj rfl rfl rfl (bd rfl rfl rfl rfl he8)) ?_
     refine dy [] [] (str e8) rfl (aN rfl rfl) ?_
     refine dk 2 [30,29] [I x2,.isl false (aw.map str)] ?_
     obtain⟨e9,he9,h⟩:=bS h
     refine dy [] [] (.iptr (str e9) 0) rfl (aj rfl rfl rfl (bd rfl rfl rfl rfl he9)) ?_
     refine dy [] [] (str e9) rfl (aN rfl rfl) ?_
     refine dk 3 [35,34,33] [B (!(Op.bytesLess e8 e9)),B (!(Op.bytesLess e8 e9)),B (!(Op.bytesLess e8 e9))] ?_
     refine de 353 rfl rfl ?_
     exact rf [0,3,35] [] (j7 _ (ak h) :)
    ·refine dk 12 [35,34,33,32,31,30,29,28,27,26,25,24] [B false,B false,.und,.und,.und,.und,.und,.und,.und,.und,.und,.und] ?_
     refine de 353 rfl rfl ?_
     exact rf [0,3,35] [] (j7 _ (ak h) :)
  ·refine aq 1 ?_
   exact rf [0] [] (hn _ (ak h) :) (hk:=hK)
 replace h:=hu3
 clear hu3
 refine sp 8 h rfl ?_ ?_<;>intro h
 ·refine cq 4 [11] [B (decide (x2≤16))] 129 ?_
  subst h
  exact rf [0,3,11] [] (j3 :)
 ·refine cq 4 [11] [B false] 129 ?_
  subst h
  exact rf [0,3,11] [] (j3 :)
theorem VT (aw:List ac)(r:Bool)(h:BM aw=some r):bA tA Tryz.f142 [false] 0 (ER aw) (ET r):=by
 show Run _ _ (ES aw r) [.code SE] _
 refine rI 39 [(0,.isl false (aw.map str))] [] 1 ?_
 unfold BM at h
 refine cq 10 [3] [I (0)] 33 ?_
 obtain⟨y10,hy10,hy101,hy102⟩:=bJ h
 refine bN rfl ?_
 refine rf [0,3] [] (Ni aw rfl 0 _ hy10 (fun r' e st hq=>by rw[hy101 r' e] at hq;exact hq) fun u10 hu=>?_)
 replace h:=hy102 u10 hu
 refine cq 3 [36] [.isl false (aw.map str)] 17 ?_
 refine oq 33 (I (len aw)) rfl (bu rfl rfl rfl (bI rfl)) ?_
 refine cq 3 [2] [B (decide ((len aw)≤16))] 65 ?_
 obtain rfl:=Option.some.inj h
 exact rP [B (decide ((len aw)≤16))]
theorem SF {G:Go.Ln.Ground}:aV Tryz.prog G 142 BN:=gT 1 0 (aM rL bF) ci Tryz.func142 (fun a r h=>VT a r h)
noncomputable def Fc:(Contract×Int)→List V:=cA aX (oA I)
noncomputable def Fd (r:Bool):V×List V:=(B r,[])
noncomputable def B0:Ent:=bm [false,false] Fc Fd fun x=>BZ x.1 x.2
theorem abp {c_1:Contract}{i_2:Int}{r}(h:BZ c_1 i_2=some r):B0.F (Fc (c_1,i_2))=some (Fd r):=aI (aU bn (aJ bG)) h
noncomputable def SZ:Code:=aG Tryz.f189
noncomputable def K1:Env:=b7 Tryz.prog []
noncomputable def SY (x:Contract×Int)(r:Bool):St→Prop:=QF K1 Tryz.f189 [false,false] (Fc x) (Fd r)
theorem Np (c_1:Contract)(i_2:Int):cj K1 0 (SY (c_1,i_2)) (cL (cL (cR (cL (cR SZ))))) 0 (tK c_1 i_2) (fun u=>(sT 26 [] [] 1)) fun x3=>(sT 26 [(1,I i_2),(2,.hp 1 0 [] 2 0 0),(5,I x3)] [⟨0,2,[aa c_1]⟩] 2):=ef (zz c_1 i_2) fun {Q K} hK self ih x3 y h hr hn=>by
 unfold np at h
 refine cq 6 [6,8] [I x3,.isl false (c_1.Clauses.map au)] 50 ?_
 refine oq 66 (I (len c_1.Clauses)) rfl (bu rfl rfl rfl (bI rfl)) ?_
 refine cq 2 [10] [B (decide (x3<(len c_1.Clauses)))] 82 ?_
 refine sq h ?_ ?_<;>intro h
 ·refine aq 1 ?_
  refine aq 3 ?_
  refine dK [0,1,0,7,15,31,0,64,0,448,960,1984,4095] rfl (by decide +kernel) ?_
  refine dq [1] [] (.hp 1 0 [] 2 0 1) rfl (an rfl rfl rfl) ?_
  refine dq [1] [] (.isl false (c_1.Clauses.map au)) rfl (aN rfl rfl) ?_
  refine dk 1 [15] [I x3] ?_
  obtain⟨e4,he4,h⟩:=bS h
  refine dq [] [] (.iptr (az e4) 0) rfl (aj rfl rfl rfl (bd rfl rfl rfl rfl he4)) ?_
  refine dq [] [] (.iptr (az e4) 11) rfl (an rfl rfl rfl) ?_
  refine dq [] [] (str e4.Repair) rfl (aN rfl rfl) ?_
  refine dq [1] [] (.hp 1 0 [] 2 0 1) rfl (an rfl rfl rfl) ?_
  refine dq [1] [] (.isl false (c_1.Clauses.map au)) rfl (aN rfl rfl) ?_
  refine dk 1 [21] [I i_2] ?_
  obtain⟨e5,he5,h⟩:=bS h
  refine dq [] [] (.iptr (az e5) 0) rfl (aj rfl rfl rfl (bd rfl rfl rfl rfl he5)) ?_
  refine dq [] [] (.iptr (az e5) 0) rfl (an rfl rfl rfl) ?_
  refine dq [] [] (str e5.Id) rfl (aN rfl rfl) ?_
  refine dk 1 [25] [B (e4.Repair==e5.Id)] ?_
  refine de 290 rfl rfl ?_
  refine sq h ?_ ?_<;>intro h
  ·refine cq 4 [4] [B true] 306 ?_
   exact co rfl (hr _ (ak h) _ (qp [B true]))
  ·refine aq 1 ?_
   refine cq 6 [5] [I (ai (x3+1))] 338 ?_
   refine cZ ?_
   exact rf [1,2,5] [1] (ih _ _ h hr hn :)
 ·refine aq 1 ?_
  exact rf [] [] (hn _ (ak h) :) (hk:=hK)
theorem V7 (c_1:Contract)(i_2:Int)(r:Bool)(h:BZ c_1 i_2=some r):bA K1 Tryz.f189 [false,false] 0 (Fc (c_1,i_2)) (Fd r):=by
 show Run _ _ (SY (c_1,i_2) r) [.code SZ] _
 refine rI 26 [(0,aa c_1),(1,I i_2)] [] 1 ?_
 unfold BZ at h
 refine ck 11 [2,5] [] [1] [] [.hp 1 0 [] 2 0 0,I (0)] [some ⟨0,2,[aa c_1]⟩] 49 (by kernel_rfl) ?_
 obtain⟨y6,hy6,hy61,hy62⟩:=bJ h
 refine bN rfl ?_
 refine rf [1,2,5] [1] (Np c_1 i_2 rfl 0 _ hy6 (fun r' e st hq=>by rw[hy61 r' e] at hq;exact hq) fun u6 hu=>?_)
 replace h:=hy62 u6 hu
 refine cq 4 [4] [B false] 17 ?_
 obtain rfl:=Option.some.inj h
 exact rP [B false]
theorem S0 {G:Go.Ln.Ground}:aV Tryz.prog G 189 B0:=gT 2 0 bF ci Tryz.func189 (fun a r h=>V7 a.1 a.2 r h)
noncomputable def Fv:(State×Int)→List V:=cA bK (oA I)
noncomputable def Fx (r:Int):V×List V:=(I r,[])
noncomputable def B5:Ent:=bm [false,false] Fv Fx fun x=>B4 x.1 x.2
theorem abt {s_1:State}{i_2:Int}{r}(h:B4 s_1 i_2=some r):B5.F (Fv (s_1,i_2))=some (Fx r):=aI (aU cd (aJ bG)) h
noncomputable def Ta:Code:=aG Tryz.f190
noncomputable abbrev Hl:Code:=cL (cL (cR (cL (cR (cR Ta)))))
noncomputable def Fw:Env:=b7 Tryz.prog []
noncomputable def S9 (x:State×Int)(r:Int):St→Prop:=QF Fw Tryz.f190 [false,false] (Fv x) (Fx r)
theorem Nu (s_1:State)(i_2:Int):cj Fw 0 (S9 (s_1,i_2)) Hl 0 (lY s_1 i_2) (fun u=>(sT 25 [(5,I u)] [] 1)) fun x3=>(sT 25 [(1,I i_2),(2,.hp 1 0 [] 5 0 0),(5,I x3.1),(6,I x3.2)] [⟨0,5,[ae s_1]⟩] 2):=ef (zE s_1 i_2) fun {Q K} hK self ih x3 y h hr hn=>by
 unfold ly at h
 refine cq 6 [7,9] [I x3.2,.isl false (s_1.Duties.map ah)] 50 ?_
 refine oq 66 (I (len s_1.Duties)) rfl (bu rfl rfl rfl (bI rfl)) ?_
 refine cq 2 [11] [B (decide (x3.2<(len s_1.Duties)))] 82 ?_
 refine sq h ?_ ?_<;>intro h
 ·refine aq 1 ?_
  refine cq 7 [15,16] [.isl false (s_1.Duties.map ah),I x3.2] 130 ?_
  obtain⟨e4,he4,h⟩:=bS h
  refine oq 146 (.iptr (ah e4) 0) rfl (aj rfl rfl rfl (bd rfl rfl rfl rfl he4)) ?_
  refine cq 5 [21] [B (e4.Clause==i_2)] 210 ?_
  obtain⟨u5,hu5,h⟩:=lJ h
  have j5:Run Fw 0 Q (.blk 1::.code (cR (cR Hl))::.lp Hl::.blk 0::K) (sT 25 [(1,I i_2),(2,.hp 1 0 [] 5 0 0),(5,I u5),(6,I x3.2)] [⟨0,5,[ae s_1]⟩] 2):=by
   refine cq 6 [6] [I (ai (x3.2+1))] 50 ?_
   refine cZ ?_
   exact rf [1,2,5,6] [1] (ih _ _ h hr hn :)
  replace h:=hu5
  clear hu5
  refine sn h rfl rfl ?_ ?_<;>intro h
  ·refine cq 5 [5] [I (ai (x3.1+1))] 258 ?_
   subst h
   exact rf [1,2,5,6] [1] (j5 :)
  ·refine aq 1 ?_
   subst h
   exact rf [1,2,5,6] [1] (j5 :)
 ·refine aq 1 ?_
  exact rf [5] [] (hn _ (ak h) :) (hk:=hK)
theorem Wc (s_1:State)(i_2:Int)(r:Int)(h:B4 s_1 i_2=some r):bA Fw Tryz.f190 [false,false] 0 (Fv (s_1,i_2)) (Fx r):=by
 show Run _ _ (S9 (s_1,i_2) r) [.code Ta] _
 refine rI 25 [(0,ae s_1),(1,I i_2)] [] 1 ?_
 unfold B4 at h
 refine ck 15 [2,5,6] [] [1] [] [.hp 1 0 [] 5 0 0,I (0),I (0)] [some ⟨0,5,[ae s_1]⟩] 65 (by kernel_rfl) ?_
 obtain⟨y6,hy6,hy61,hy62⟩:=bJ h
 refine bN rfl ?_
 refine rf [1,2,5,6] [1] (Nu s_1 i_2 rfl (0,0) _ hy6 (fun r' e st hq=>by rw[hy61 r' e] at hq;exact hq) fun u6 hu=>?_)
 replace h:=hy62 u6 hu
 refine cq 5 [4] [I u6] 33 ?_
 obtain rfl:=Option.some.inj h
 exact rP [I u6]
theorem Tb {G:Go.Ln.Ground}:aV Tryz.prog G 190 B5:=gT 2 0 bF ci Tryz.func190 (fun a r h=>Wc a.1 a.2 r h)
noncomputable def Fz:(Contract×State×Int)→List V:=cA aX (cA bK (oA I))
noncomputable def FA (r:Bool):V×List V:=(B r,[])
noncomputable def B7:Ent:=bm [false,false,false] Fz FA fun x=>B6 x.1 x.2.1 x.2.2
theorem abu {c_1:Contract}{s_2:State}{k_3:Int}{r}(h:B6 c_1 s_2 k_3=some r):B7.F (Fz (c_1,s_2,k_3))=some (FA r):=aI (aU bn (aU cd (aJ bG))) h
noncomputable def K7:Code:=aG Tryz.f144
noncomputable abbrev oV:Code:=cR (cR (cR K7))
noncomputable abbrev tP:Code:=cR (cL (cR (cR K7)))
noncomputable abbrev ez:Code:=cR oV
noncomputable abbrev eE:Code:=cR (cL oV)
noncomputable def ec:Env:=b7 Tryz.prog [(128,fO),(189,B0),(190,B5),(63,qV)]
noncomputable def cT (x:Contract×State×Int)(r:Bool):St→Prop:=QF ec Tryz.f144 [false,false,false] (Fz x) (FA r)
theorem We (c_1:Contract)(s_2:State)(k_3:Int)(r:Bool)(h:B6 c_1 s_2 k_3=some r):bA ec Tryz.f144 [false,false,false] 0 (Fz (c_1,s_2,k_3)) (FA r):=by
 show Run _ _ (cT (c_1,s_2,k_3) r) [.code K7] _
 refine rI 129 [(0,aa c_1),(1,ae s_2),(2,I k_3)] [] 1 ?_
 unfold B6 at h
 refine ck 11 [3,4,9,10] [] [1,17] [] [.hp 1 0 [] 2 0 0,.hp 17 0 [] 5 0 0,.isl false (s_2.Duties.map ah),I k_3] [some ⟨0,2,[aa c_1]⟩,some ⟨0,5,[ae s_2]⟩] 97 (by kernel_rfl) ?_
 obtain⟨e4,he4,h⟩:=bS h
 refine oq 113 (.iptr (ah e4) 0) rfl (aj rfl rfl rfl (bd rfl rfl rfl rfl he4)) ?_
 refine ck 6 [7] [] [129] [] [.hp 129 0 [] 4 0 0] [some ⟨0,4,[ah e4]⟩] 161 (by kernel_rfl) ?_
 refine dK [0,1,0,4,12,28,63,127,255,511,1023,511,2559,8191,16383,32767,65535,131071,262143,524287,1048575,524287,2621439,8388607,16777215,33554431,67108863,134217727,268435455,134217727,671088639,134217727,2281701375,134217727,8724152319,32346472447,66706210815,135425687551,274475253759,549755813887,1099511627775,2199023255551,4398046511103,8796093022207,17592186044415,35184372088831,70368744177663,140737488355327,281474976710655,562949953421311,1125899906842623,2251799813685247,4503599627370495] rfl (by decide +kernel) ?_
 refine dq [129] [] (.hp 129 0 [] 4 0 0) rfl (an rfl rfl rfl) ?_
 refine dq [129] [] (I e4.Clause) rfl (aN rfl rfl) ?_
 refine dq [1] [] (.hp 1 0 [] 2 0 1) rfl (an rfl rfl rfl) ?_
 refine dq [1] [] (.isl false (c_1.Clauses.map au)) rfl (aN rfl rfl) ?_
 refine dq [] [] (I (len c_1.Clauses)) rfl (bu rfl rfl rfl (bI rfl)) ?_
 refine dk 1 [18] [I (ai ((len c_1.Clauses) - 1))] ?_
 obtain⟨r5,hr5,h⟩:=bS h
 refine dq [] [] (B r5) rfl (cP (eu hr5)) ?_ (dU rfl rfl rfl rfl (bC (cg rfl) (bC (cg rfl) (bC (cg rfl) dM))) (eu hr5) (.inr rfl) rfl)
 refine dk 2 [21,20] [B (!r5),B (!r5)] ?_
 obtain⟨y6,hy6,hy61,hy62⟩:=bJ h
 have j6:∀u6,y6=.inr u6→Run ec 0 (cT (c_1,s_2,k_3) r) (.code tP::.code oV::[]) (sT 129 [(2,I k_3),(3,.hp 1 0 [] 2 0 0),(4,.hp 2 0 [] 5 0 0),(7,.hp 3 0 [] 4 0 0),(65,B u6)] [⟨0,2,[aa c_1]⟩,⟨0,5,[ae s_2]⟩,⟨0,4,[ah e4]⟩] 4):=by
  intro u6 hu
  replace h:=hy62 u6 hu
  refine sq h ?_ ?_<;>intro h
  ·refine cq 4 [6] [B false] 20 ?_
   obtain rfl:=Option.some.inj h
   exact rP [B false]
  ·refine aq 1 ?_
   refine aq 2 ?_
   refine dK [0,1,3,7,15,7,39,127,255,511,7,1031,4095,8191,16383,32767,65535,131071,262143,524287,1048575,524287,2621439,8388607,16777215,33554431,67108863,134217727,268435455,536870911,1073741823,2147483647,4294967295,8589934591,17179869183,34359738367,68719476735,34359738367,171798691839,549755813887,1099511627775,2199023255551,4398046511103,8796093022207,17592186044415,35184372088831,70368744177663,140737488355327,281474976710655,562949953421311,1125899906842623,2251799813685247] rfl (by decide +kernel) ?_
   refine dk 3 [68,67,66] [B (decide (k_3>0)),B (decide (k_3>0)),I k_3] ?_
   obtain⟨y7,hy7,hy71,hy72⟩:=bJ h
   have j7:∀u7,y7=.inr u7→Run ec 0 (cT (c_1,s_2,k_3) r) (.code eE::.code ez::[]) (sT 129 [(3,.hp 1 0 [] 2 0 0),(4,.hp 2 0 [] 5 0 0),(7,.hp 3 0 [] 4 0 0),(117,B u7)] [⟨0,2,[aa c_1]⟩,⟨0,5,[ae s_2]⟩,⟨0,4,[ah e4]⟩] 4):=by
    intro u7 hu
    replace h:=hy72 u7 hu
    refine sq h ?_ ?_<;>intro h
    ·refine cq 4 [6] [B false] 20 ?_
     obtain rfl:=Option.some.inj h
     exact rP [B false]
    ·refine aq 1 ?_
     refine cq 5 [118,120] [aa c_1,I e4.Clause] 52 ?_
     obtain⟨r8,hr8,h⟩:=bS h
     refine oq 68 (B r8) rfl (cP (abp hr8)) ?_
     refine cq 1 [122] [B r8] 84 ?_
     obtain⟨y9,hy9,hy91,hy92⟩:=bJ h
     have j9:∀u9,y9=.inr u9→Run ec 0 (cT (c_1,s_2,k_3) r) (.code (cR ez)::[]) (sT 129 [(6,B u9)] [] 1):=by
      intro u9 hu
      replace h:=hy92 u9 hu
      obtain rfl:=Option.some.inj h
      exact rP [B u9]
     have r9:∀r',y9=.inl r'→∀st,cT (c_1,s_2,k_3) r' st→(cT (c_1,s_2,k_3) r) st:=fun r' e st hq=>by rw[hy91 r' e] at hq;exact hq
     replace h:=hy9
     refine sp 122 h rfl ?_ ?_<;>intro h
     ·refine cq 8 [6] [B true] 196 ?_
      exact rf [6] [] (j9 _ (ak h) :)
     ·refine cq 3 [123,125] [ae s_2,I e4.Clause] 132 ?_
      obtain⟨r10,hr10,h⟩:=bS h
      refine oy 148 (I r10) rfl (cP (abt hr10)) ?_
      refine cq 4 [6] [B (r10==1)] 196 ?_
      exact rf [6] [] (j9 _ (ak h) :)
   have r7:∀r',y7=.inl r'→∀st,cT (c_1,s_2,k_3) r' st→(cT (c_1,s_2,k_3) r) st:=fun r' e st hq=>by rw[hy71 r' e] at hq;exact hq
   replace h:=hy7
   refine sp 68 h rfl ?_ ?_<;>intro h
   ·refine dy [2] [] (.hp 2 0 [] 5 0 2) rfl (an rfl rfl rfl) ?_
    refine dy [2] [] (.isl false (s_2.Duties.map ah)) rfl (aN rfl rfl) ?_
    refine dk 2 [72,71] [I (ai (k_3 - 1)),I k_3] ?_
    obtain⟨e11,he11,h⟩:=bS h
    refine dy [] [] (.iptr (ah e11) 0) rfl (aj rfl rfl rfl (bd rfl rfl rfl rfl he11)) ?_
    refine dy [] [] (.iptr (ah e11) 1) rfl (an rfl rfl rfl) ?_
    refine dy [] [] (I e11.Since) rfl (aN rfl rfl) ?_
    refine dy [3] [] (.hp 3 0 [] 4 0 1) rfl (an rfl rfl rfl) ?_
    refine dy [3] [] (I e4.Since) rfl (aN rfl rfl) ?_
    refine dk 3 [80,79,78] [B (decide (e11.Since>e4.Since)),B (decide (e11.Since>e4.Since)),B (decide (e11.Since>e4.Since))] ?_
    obtain⟨u12,hu12,h⟩:=lJ h
    have j12:Run ec 0 (cT (c_1,s_2,k_3) r) (.code eE::.code ez::[]) (sT 129 [(3,.hp 1 0 [] 2 0 0),(4,.hp 2 0 [] 5 0 0),(7,.hp 3 0 [] 4 0 0),(117,B u12)] [⟨0,2,[aa c_1]⟩,⟨0,5,[ae s_2]⟩,⟨0,4,[ah e4]⟩] 4):=by
     exact rf [3,4,7,117] [1,2,3] (j7 _ (ak h) :)
    replace h:=hu12
    clear hu12
    refine sp 80 h rfl ?_ ?_<;>intro h
    ·refine dk 37 [117,116,115,114,113,112,111,110,109,108,107,106,105,104,103,102,101,100,99,98,97,96,95,94,93,92,91,90,89,88,87,86,85,84,83,82,81] [B true,.und,.und,.und,.und,.und,.und,.und,.und,B true,B true,.und,.und,.und,.und,.und,.und,.und,.und,.und,.und,B true,B true,.und,.und,.und,.und,.und,.und,.und,.und,.und,.und,.und,.und,.und,.und] ?_
     refine de 836 rfl rfl ?_
     subst h
     exact rf [3,4,7,117] [1,2,3] (j12 :)
    ·refine dy [3] [] (.hp 3 0 [] 4 0 3) rfl (an rfl rfl rfl) ?_
     refine dy [3] [] (I e4.Status) rfl (aN rfl rfl) ?_
     refine dk 2 [84,83] [B (e4.Status==1),B (e4.Status==1)] ?_
     obtain⟨u13,hu13,h⟩:=lJ h
     have j13:Run ec 0 (cT (c_1,s_2,k_3) r) (.code eE::.code ez::[]) (sT 129 [(3,.hp 1 0 [] 2 0 0),(4,.hp 2 0 [] 5 0 0),(7,.hp 3 0 [] 4 0 0),(117,B u13)] [⟨0,2,[aa c_1]⟩,⟨0,5,[ae s_2]⟩,⟨0,4,[ah e4]⟩] 4):=by
      subst h
      exact rf [3,4,7,117] [1,2,3] (j12 :)
     replace h:=hu13
     clear hu13
     refine sp 84 h rfl ?_ ?_<;>intro h
     ·refine dy [3] [] (.hp 3 0 [] 4 0 2) rfl (an rfl rfl rfl) ?_
      refine dy [3] [] (I e4.Due) rfl (aN rfl rfl) ?_
      refine dy [2] [] (.hp 2 0 [] 5 0 0) rfl (an rfl rfl rfl) ?_
      refine dy [2] [] (I s_2.Day) rfl (aN rfl rfl) ?_
      refine dk 2 [90,89] [B (decide (e4.Due<s_2.Day)),B (decide (e4.Due<s_2.Day))] ?_
      obtain⟨u14,hu14,h⟩:=lJ h
      have j14:Run ec 0 (cT (c_1,s_2,k_3) r) (.code eE::.code ez::[]) (sT 129 [(3,.hp 1 0 [] 2 0 0),(4,.hp 2 0 [] 5 0 0),(7,.hp 3 0 [] 4 0 0),(117,B u14)] [⟨0,2,[aa c_1]⟩,⟨0,5,[ae s_2]⟩,⟨0,4,[ah e4]⟩] 4):=by
       subst h
       exact rf [3,4,7,117] [1,2,3] (j13 :)
      replace h:=hu14
      clear hu14
      refine sp 90 h rfl ?_ ?_<;>intro h
      ·refine dk 27 [117,116,115,114,113,112,111,110,109,108,107,106,105,104,103,102,101,100,99,98,97,96,95,94,93,92,91] [B true,.und,.und,.und,.und,.und,.und,.und,.und,B true,B true,.und,.und,.und,.und,.und,.und,.und,.und,.und,.und,B true,B true,B true,B true,.und,.und] ?_
       refine de 836 rfl rfl ?_
       subst h
       exact rf [3,4,7,117] [1,2,3] (j14 :)
      ·refine dy [2] [] (.hp 2 0 [] 5 0 4) rfl (an rfl rfl rfl) ?_
       refine dy [2] [] (B s_2.Over) rfl (aN rfl rfl) ?_
       refine dk 4 [96,95,94,93] [B s_2.Over,B s_2.Over,B s_2.Over,B s_2.Over] ?_
       obtain⟨u15,hu15,h⟩:=lJ h
       have j15:Run ec 0 (cT (c_1,s_2,k_3) r) (.code eE::.code ez::[]) (sT 129 [(3,.hp 1 0 [] 2 0 0),(4,.hp 2 0 [] 5 0 0),(7,.hp 3 0 [] 4 0 0),(117,B u15)] [⟨0,2,[aa c_1]⟩,⟨0,5,[ae s_2]⟩,⟨0,4,[ah e4]⟩] 4):=by
        subst h
        exact rf [3,4,7,117] [1,2,3] (j14 :)
       replace h:=hu15
       clear hu15
       refine sp 96 h rfl ?_ ?_<;>intro h
       ·refine dk 21 [117,116,115,114,113,112,111,110,109,108,107,106,105,104,103,102,101,100,99,98,97] [B true,.und,.und,.und,.und,.und,.und,.und,.und,B true,B true,.und,.und,.und,.und,.und,.und,.und,.und,.und,.und] ?_
        refine de 836 rfl rfl ?_
        subst h
        exact rf [3,4,7,117] [1,2,3] (j15 :)
       ·refine dy [3] [] (.hp 3 0 [] 4 0 3) rfl (an rfl rfl rfl) ?_
        refine dy [3] [] (I e4.Status) rfl (aN rfl rfl) ?_
        refine dk 2 [100,99] [B (e4.Status==3),B (e4.Status==3)] ?_
        obtain⟨u16,hu16,h⟩:=lJ h
        have j16:Run ec 0 (cT (c_1,s_2,k_3) r) (.code eE::.code ez::[]) (sT 129 [(3,.hp 1 0 [] 2 0 0),(4,.hp 2 0 [] 5 0 0),(7,.hp 3 0 [] 4 0 0),(117,B u16)] [⟨0,2,[aa c_1]⟩,⟨0,5,[ae s_2]⟩,⟨0,4,[ah e4]⟩] 4):=by
         subst h
         exact rf [3,4,7,117] [1,2,3] (j15 :)
        replace h:=hu16
        clear hu16
        refine sp 100 h rfl ?_ ?_<;>intro h
        ·refine dy [3] [] (.hp 3 0 [] 4 0 2) rfl (an rfl rfl rfl) ?_
         refine dy [3] [] (I e4.Due) rfl (aN rfl rfl) ?_
         refine dy [2] [] (.hp 2 0 [] 5 0 0) rfl (an rfl rfl rfl) ?_
         refine dy [2] [] (I s_2.Day) rfl (aN rfl rfl) ?_
         refine dk 4 [108,107,106,105] [B (decide (e4.Due≥s_2.Day)),B (decide (e4.Due≥s_2.Day)),B (decide (e4.Due≥s_2.Day)),B (decide (e4.Due≥s_2.Day))] ?_
         obtain⟨u17,hu17,h⟩:=lJ h
         have j17:Run ec 0 (cT (c_1,s_2,k_3) r) (.code eE::.code ez::[]) (sT 129 [(3,.hp 1 0 [] 2 0 0),(4,.hp 2 0 [] 5 0 0),(7,.hp 3 0 [] 4 0 0),(117,B u17)] [⟨0,2,[aa c_1]⟩,⟨0,5,[ae s_2]⟩,⟨0,4,[ah e4]⟩] 4):=by
          subst h
          exact rf [3,4,7,117] [1,2,3] (j16 :)
         replace h:=hu17
         clear hu17
         refine sp 108 h rfl ?_ ?_<;>intro h
         ·refine dk 9 [117,116,115,114,113,112,111,110,109] [B true,.und,.und,.und,.und,.und,.und,.und,.und] ?_
          refine de 836 rfl rfl ?_
          subst h
          exact rf [3,4,7,117] [1,2,3] (j17 :)
         ·refine dy [3] [] (.hp 3 0 [] 4 0 3) rfl (an rfl rfl rfl) ?_
          refine dy [3] [] (I e4.Status) rfl (aN rfl rfl) ?_
          refine dk 2 [112,111] [B (e4.Status==4),B (e4.Status==4)] ?_
          obtain⟨u18,hu18,h⟩:=lJ h
          have j18:Run ec 0 (cT (c_1,s_2,k_3) r) (.code eE::.code ez::[]) (sT 129 [(3,.hp 1 0 [] 2 0 0),(4,.hp 2 0 [] 5 0 0),(7,.hp 3 0 [] 4 0 0),(117,B u18)] [⟨0,2,[aa c_1]⟩,⟨0,5,[ae s_2]⟩,⟨0,4,[ah e4]⟩] 4):=by
           subst h
           exact rf [3,4,7,117] [1,2,3] (j17 :)
          replace h:=hu18
          clear hu18
          refine sp 112 h rfl ?_ ?_<;>intro h
          ·refine dy [2] [] (.hp 2 0 [] 5 0 4) rfl (an rfl rfl rfl) ?_
           refine dy [2] [] (B s_2.Over) rfl (aN rfl rfl) ?_
           refine dk 3 [117,116,115] [B (!s_2.Over),B (!s_2.Over),B (!s_2.Over)] ?_
           refine de 836 rfl rfl ?_
           subst h
           exact rf [3,4,7,117] [1,2,3] (j18 :)
          ·refine dk 5 [117,116,115,114,113] [B false,B false,.und,.und,.und] ?_
           refine de 836 rfl rfl ?_
           subst h
           exact rf [3,4,7,117] [1,2,3] (j18 :)
        ·refine dk 8 [108,107,106,105,104,103,102,101] [B false,B false,B false,.und,.und,.und,.und,.und] ?_
         refine dy [3] [] (.hp 3 0 [] 4 0 3) rfl (an rfl rfl rfl) ?_
         refine dy [3] [] (I e4.Status) rfl (aN rfl rfl) ?_
         refine dk 2 [112,111] [B (e4.Status==4),B (e4.Status==4)] ?_
         obtain⟨u19,hu19,h⟩:=lJ h
         have j19:Run ec 0 (cT (c_1,s_2,k_3) r) (.code eE::.code ez::[]) (sT 129 [(3,.hp 1 0 [] 2 0 0),(4,.hp 2 0 [] 5 0 0),(7,.hp 3 0 [] 4 0 0),(117,B u19)] [⟨0,2,[aa c_1]⟩,⟨0,5,[ae s_2]⟩,⟨0,4,[ah e4]⟩] 4):=by
          subst h
          exact rf [3,4,7,117] [1,2,3] (j16 :)
         replace h:=hu19
         clear hu19
         refine sp 112 h rfl ?_ ?_<;>intro h
         ·refine dy [2] [] (.hp 2 0 [] 5 0 4) rfl (an rfl rfl rfl) ?_
          refine dy [2] [] (B s_2.Over) rfl (aN rfl rfl) ?_
          refine dk 3 [117,116,115] [B (!s_2.Over),B (!s_2.Over),B (!s_2.Over)] ?_
          refine de 836 rfl rfl ?_
          subst h
          exact rf [3,4,7,117] [1,2,3] (j19 :)
         ·refine dk 5 [117,116,115,114,113] [B false,B false,.und,.und,.und] ?_
          refine de 836 rfl rfl ?_
          subst h
          exact rf [3,4,7,117] [1,2,3] (j19 :)
     ·refine dk 12 [96,95,94,93,92,91,90,89,88,87,86,85] [B false,B false,B false,.und,.und,.und,.und,.und,.und,.und,.und,.und] ?_
      refine dy [3] [] (.hp 3 0 [] 4 0 3) rfl (an rfl rfl rfl) ?_
      refine dy [3] [] (I e4.Status) rfl (aN rfl rfl) ?_
      refine dk 2 [100,99] [B (e4.Status==3),B (e4.Status==3)] ?_
      obtain⟨u20,hu20,h⟩:=lJ h
      have j20:Run ec 0 (cT (c_1,s_2,k_3) r) (.code eE::.code ez::[]) (sT 129 [(3,.hp 1 0 [] 2 0 0),(4,.hp 2 0 [] 5 0 0),(7,.hp 3 0 [] 4 0 0),(117,B u20)] [⟨0,2,[aa c_1]⟩,⟨0,5,[ae s_2]⟩,⟨0,4,[ah e4]⟩] 4):=by
       subst h
       exact rf [3,4,7,117] [1,2,3] (j13 :)
      replace h:=hu20
      clear hu20
      refine sp 100 h rfl ?_ ?_<;>intro h
      ·refine dy [3] [] (.hp 3 0 [] 4 0 2) rfl (an rfl rfl rfl) ?_
       refine dy [3] [] (I e4.Due) rfl (aN rfl rfl) ?_
       refine dy [2] [] (.hp 2 0 [] 5 0 0) rfl (an rfl rfl rfl) ?_
       refine dy [2] [] (I s_2.Day) rfl (aN rfl rfl) ?_
       refine dk 4 [108,107,106,105] [B (decide (e4.Due≥s_2.Day)),B (decide (e4.Due≥s_2.Day)),B (decide (e4.Due≥s_2.Day)),B (decide (e4.Due≥s_2.Day))] ?_
       obtain⟨u21,hu21,h⟩:=lJ h
       have j21:Run ec 0 (cT (c_1,s_2,k_3) r) (.code eE::.code ez::[]) (sT 129 [(3,.hp 1 0 [] 2 0 0),(4,.hp 2 0 [] 5 0 0),(7,.hp 3 0 [] 4 0 0),(117,B u21)] [⟨0,2,[aa c_1]⟩,⟨0,5,[ae s_2]⟩,⟨0,4,[ah e4]⟩] 4):=by
        subst h
        exact rf [3,4,7,117] [1,2,3] (j20 :)
       replace h:=hu21
       clear hu21
       refine sp 108 h rfl ?_ ?_<;>intro h
       ·refine dk 9 [117,116,115,114,113,112,111,110,109] [B true,.und,.und,.und,.und,.und,.und,.und,.und] ?_
        refine de 836 rfl rfl ?_
        subst h
        exact rf [3,4,7,117] [1,2,3] (j21 :)
       ·refine dy [3] [] (.hp 3 0 [] 4 0 3) rfl (an rfl rfl rfl) ?_
        refine dy [3] [] (I e4.Status) rfl (aN rfl rfl) ?_
        refine dk 2 [112,111] [B (e4.Status==4),B (e4.Status==4)] ?_
        obtain⟨u22,hu22,h⟩:=lJ h
        have j22:Run ec 0 (cT (c_1,s_2,k_3) r) (.code eE::.code ez::[]) (sT 129 [(3,.hp 1 0 [] 2 0 0),(4,.hp 2 0 [] 5 0 0),(7,.hp 3 0 [] 4 0 0),(117,B u22)] [⟨0,2,[aa c_1]⟩,⟨0,5,[ae s_2]⟩,⟨0,4,[ah e4]⟩] 4):=by
         subst h
         exact rf [3,4,7,117] [1,2,3] (j21 :)
        replace h:=hu22
        clear hu22
        refine sp 112 h rfl ?_ ?_<;>intro h
        ·refine dy [2] [] (.hp 2 0 [] 5 0 4) rfl (an rfl rfl rfl) ?_
         refine dy [2] [] (B s_2.Over) rfl (aN rfl rfl) ?_
         refine dk 3 [117,116,115] [B (!s_2.Over),B (!s_2.Over),B (!s_2.Over)] ?_
         refine de 836 rfl rfl ?_
         subst h
         exact rf [3,4,7,117] [1,2,3] (j22 :)
        ·refine dk 5 [117,116,115,114,113] [B false,B false,.und,.und,.und] ?_
         refine de 836 rfl rfl ?_
         subst h
         exact rf [3,4,7,117] [1,2,3] (j22 :)
      ·refine dk 8 [108,107,106,105,104,103,102,101] [B false,B false,B false,.und,.und,.und,.und,.und] ?_
       refine dy [3] [] (.hp 3 0 [] 4 0 3) rfl (an rfl rfl rfl) ?_
       refine dy [3] [] (I e4.Status) rfl (aN rfl rfl) ?_
       refine dk 2 [112,111] [B (e4.Status==4),B (e4.Status==4)] ?_
       obtain⟨u23,hu23,h⟩:=lJ h
       have j23:Run ec 0 (cT (c_1,s_2,k_3) r) (.code eE::.code ez::[]) (sT 129 [(3,.hp 1 0 [] 2 0 0),(4,.hp 2 0 [] 5 0 0),(7,.hp 3 0 [] 4 0 0),(117,B u23)] [⟨0,2,[aa c_1]⟩,⟨0,5,[ae s_2]⟩,⟨0,4,[ah e4]⟩] 4):=by
        subst h
        exact rf [3,4,7,117] [1,2,3] (j20 :)
       replace h:=hu23
       clear hu23
       refine sp 112 h rfl ?_ ?_<;>intro h
       ·refine dy [2] [] (.hp 2 0 [] 5 0 4) rfl (an rfl rfl rfl) ?_
        refine dy [2] [] (B s_2.Over) rfl (aN rfl rfl) ?_
        refine dk 3 [117,116,115] [B (!s_2.Over),B (!s_2.Over),B (!s_2.Over)] ?_
        refine de 836 rfl rfl ?_
        subst h
        exact rf [3,4,7,117] [1,2,3] (j23 :)
       ·refine dk 5 [117,116,115,114,113] [B false,B false,.und,.und,.und] ?_
        refine de 836 rfl rfl ?_
        subst h
        exact rf [3,4,7,117] [1,2,3] (j23 :)
   ·refine dk 12 [80,79,78,77,76,75,74,73,72,71,70,69] [B false,B false,.und,.und,.und,.und,.und,.und,.und,.und,.und,.und] ?_
    refine dy [3] [] (.hp 3 0 [] 4 0 3) rfl (an rfl rfl rfl) ?_
    refine dy [3] [] (I e4.Status) rfl (aN rfl rfl) ?_
    refine dk 2 [84,83] [B (e4.Status==1),B (e4.Status==1)] ?_
    obtain⟨u24,hu24,h⟩:=lJ h
    have j24:Run ec 0 (cT (c_1,s_2,k_3) r) (.code eE::.code ez::[]) (sT 129 [(3,.hp 1 0 [] 2 0 0),(4,.hp 2 0 [] 5 0 0),(7,.hp 3 0 [] 4 0 0),(117,B u24)] [⟨0,2,[aa c_1]⟩,⟨0,5,[ae s_2]⟩,⟨0,4,[ah e4]⟩] 4):=by
     exact rf [3,4,7,117] [1,2,3] (j7 _ (ak h) :)
    replace h:=hu24
    clear hu24
    refine sp 84 h rfl ?_ ?_<;>intro h
    ·refine dy [3] [] (.hp 3 0 [] 4 0 2) rfl (an rfl rfl rfl) ?_
     refine dy [3] [] (I e4.Due) rfl (aN rfl rfl) ?_
     refine dy [2] [] (.hp 2 0 [] 5 0 0) rfl (an rfl rfl rfl) ?_
     refine dy [2] [] (I s_2.Day) rfl (aN rfl rfl) ?_
     refine dk 2 [90,89] [B (decide (e4.Due<s_2.Day)),B (decide (e4.Due<s_2.Day))] ?_
     obtain⟨u25,hu25,h⟩:=lJ h
     have j25:Run ec 0 (cT (c_1,s_2,k_3) r) (.code eE::.code ez::[]) (sT 129 [(3,.hp 1 0 [] 2 0 0),(4,.hp 2 0 [] 5 0 0),(7,.hp 3 0 [] 4 0 0),(117,B u25)] [⟨0,2,[aa c_1]⟩,⟨0,5,[ae s_2]⟩,⟨0,4,[ah e4]⟩] 4):=by
      subst h
      exact rf [3,4,7,117] [1,2,3] (j24 :)
     replace h:=hu25
     clear hu25
     refine sp 90 h rfl ?_ ?_<;>intro h
     ·refine dk 27 [117,116,115,114,113,112,111,110,109,108,107,106,105,104,103,102,101,100,99,98,97,96,95,94,93,92,91] [B true,.und,.und,.und,.und,.und,.und,.und,.und,B true,B true,.und,.und,.und,.und,.und,.und,.und,.und,.und,.und,B true,B true,B true,B true,.und,.und] ?_
      refine de 836 rfl rfl ?_
      subst h
      exact rf [3,4,7,117] [1,2,3] (j25 :)
     ·refine dy [2] [] (.hp 2 0 [] 5 0 4) rfl (an rfl rfl rfl) ?_
      refine dy [2] [] (B s_2.Over) rfl (aN rfl rfl) ?_
      refine dk 4 [96,95,94,93] [B s_2.Over,B s_2.Over,B s_2.Over,B s_2.Over] ?_
      obtain⟨u26,hu26,h⟩:=lJ h
      have j26:Run ec 0 (cT (c_1,s_2,k_3) r) (.code eE::.code ez::[]) (sT 129 [(3,.hp 1 0 [] 2 0 0),(4,.hp 2 0 [] 5 0 0),(7,.hp 3 0 [] 4 0 0),(117,B u26)] [⟨0,2,[aa c_1]⟩,⟨0,5,[ae s_2]⟩,⟨0,4,[ah e4]⟩] 4):=by
       subst h
       exact rf [3,4,7,117] [1,2,3] (j25 :)
      replace h:=hu26
      clear hu26
      refine sp 96 h rfl ?_ ?_<;>intro h
      ·refine dk 21 [117,116,115,114,113,112,111,110,109,108,107,106,105,104,103,102,101,100,99,98,97] [B true,.und,.und,.und,.und,.und,.und,.und,.und,B true,B true,.und,.und,.und,.und,.und,.und,.und,.und,.und,.und] ?_
       refine de 836 rfl rfl ?_
       subst h
       exact rf [3,4,7,117] [1,2,3] (j26 :)
      ·refine dy [3] [] (.hp 3 0 [] 4 0 3) rfl (an rfl rfl rfl) ?_
       refine dy [3] [] (I e4.Status) rfl (aN rfl rfl) ?_
       refine dk 2 [100,99] [B (e4.Status==3),B (e4.Status==3)] ?_
       obtain⟨u27,hu27,h⟩:=lJ h
       have j27:Run ec 0 (cT (c_1,s_2,k_3) r) (.code eE::.code ez::[]) (sT 129 [(3,.hp 1 0 [] 2 0 0),(4,.hp 2 0 [] 5 0 0),(7,.hp 3 0 [] 4 0 0),(117,B u27)] [⟨0,2,[aa c_1]⟩,⟨0,5,[ae s_2]⟩,⟨0,4,[ah e4]⟩] 4):=by
        subst h
        exact rf [3,4,7,117] [1,2,3] (j26 :)
       replace h:=hu27
       clear hu27
       refine sp 100 h rfl ?_ ?_<;>intro h
       ·refine dy [3] [] (.hp 3 0 [] 4 0 2) rfl (an rfl rfl rfl) ?_
        refine dy [3] [] (I e4.Due) rfl (aN rfl rfl) ?_
        refine dy [2] [] (.hp 2 0 [] 5 0 0) rfl (an rfl rfl rfl) ?_
        refine dy [2] [] (I s_2.Day) rfl (aN rfl rfl) ?_
        refine dk 4 [108,107,106,105] [B (decide (e4.Due≥s_2.Day)),B (decide (e4.Due≥s_2.Day)),B (decide (e4.Due≥s_2.Day)),B (decide (e4.Due≥s_2.Day))] ?_
        obtain⟨u28,hu28,h⟩:=lJ h
        have j28:Run ec 0 (cT (c_1,s_2,k_3) r) (.code eE::.code ez::[]) (sT 129 [(3,.hp 1 0 [] 2 0 0),(4,.hp 2 0 [] 5 0 0),(7,.hp 3 0 [] 4 0 0),(117,B u28)] [⟨0,2,[aa c_1]⟩,⟨0,5,[ae s_2]⟩,⟨0,4,[ah e4]⟩] 4):=by
         subst h
         exact rf [3,4,7,117] [1,2,3] (j27 :)
        replace h:=hu28
        clear hu28
        refine sp 108 h rfl ?_ ?_<;>intro h
        ·refine dk 9 [117,116,115,114,113,112,111,110,109] [B true,.und,.und,.und,.und,.und,.und,.und,.und] ?_
         refine de 836 rfl rfl ?_
         subst h
         exact rf [3,4,7,117] [1,2,3] (j28 :)
        ·refine dy [3] [] (.hp 3 0 [] 4 0 3) rfl (an rfl rfl rfl) ?_
         refine dy [3] [] (I e4.Status) rfl (aN rfl rfl) ?_
         refine dk 2 [112,111] [B (e4.Status==4),B (e4.Status==4)] ?_
         obtain⟨u29,hu29,h⟩:=lJ h
         have j29:Run ec 0 (cT (c_1,s_2,k_3) r) (.code eE::.code ez::[]) (sT 129 [(3,.hp 1 0 [] 2 0 0),(4,.hp 2 0 [] 5 0 0),(7,.hp 3 0 [] 4 0 0),(117,B u29)] [⟨0,2,[aa c_1]⟩,⟨0,5,[ae s_2]⟩,⟨0,4,[ah e4]⟩] 4):=by
          subst h
          exact rf [3,4,7,117] [1,2,3] (j28 :)
         replace h:=hu29
         clear hu29
         refine sp 112 h rfl ?_ ?_<;>intro h
         ·refine dy [2] [] (.hp 2 0 [] 5 0 4) rfl (an rfl rfl rfl) ?_
          refine dy [2] [] (B s_2.Over) rfl (aN rfl rfl) ?_
          refine dk 3 [117,116,115] [B (!s_2.Over),B (!s_2.Over),B (!s_2.Over)] ?_
          refine de 836 rfl rfl ?_
          subst h
          exact rf [3,4,7,117] [1,2,3] (j29 :)
         ·refine dk 5 [117,116,115,114,113] [B false,B false,.und,.und,.und] ?_
          refine de 836 rfl rfl ?_
          subst h
          exact rf [3,4,7,117] [1,2,3] (j29 :)
       ·refine dk 8 [108,107,106,105,104,103,102,101] [B false,B false,B false,.und,.und,.und,.und,.und] ?_
        refine dy [3] [] (.hp 3 0 [] 4 0 3) rfl (an rfl rfl rfl) ?_
        refine dy [3] [] (I e4.Status) rfl (aN rfl rfl) ?_
        refine dk 2 [112,111] [B (e4.Status==4),B (e4.Status==4)] ?_
        obtain⟨u30,hu30,h⟩:=lJ h
        have j30:Run ec 0 (cT (c_1,s_2,k_3) r) (.code eE::.code ez::[]) (sT 129 [(3,.hp 1 0 [] 2 0 0),(4,.hp 2 0 [] 5 0 0),(7,.hp 3 0 [] 4 0 0),(117,B u30)] [⟨0,2,[aa c_1]⟩,⟨0,5,[ae s_2]⟩,⟨0,4,[ah e4]⟩] 4):=by
         subst h
         exact rf [3,4,7,117] [1,2,3] (j27 :)
        replace h:=hu30
        clear hu30
        refine sp 112 h rfl ?_ ?_<;>intro h
        ·refine dy [2] [] (.hp 2 0 [] 5 0 4) rfl (an rfl rfl rfl) ?_
         refine dy [2] [] (B s_2.Over) rfl (aN rfl rfl) ?_
         refine dk 3 [117,116,115] [B (!s_2.Over),B (!s_2.Over),B (!s_2.Over)] ?_
         refine de 836 rfl rfl ?_
         subst h
         exact rf [3,4,7,117] [1,2,3] (j30 :)
        ·refine dk 5 [117,116,115,114,113] [B false,B false,.und,.und,.und] ?_
         refine de 836 rfl rfl ?_
         subst h
         exact rf [3,4,7,117] [1,2,3] (j30 :)
    ·refine dk 12 [96,95,94,93,92,91,90,89,88,87,86,85] [B false,B false,B false,.und,.und,.und,.und,.und,.und,.und,.und,.und] ?_
     refine dy [3] [] (.hp 3 0 [] 4 0 3) rfl (an rfl rfl rfl) ?_
     refine dy [3] [] (I e4.Status) rfl (aN rfl rfl) ?_
     refine dk 2 [100,99] [B (e4.Status==3),B (e4.Status==3)] ?_
     obtain⟨u31,hu31,h⟩:=lJ h
     have j31:Run ec 0 (cT (c_1,s_2,k_3) r) (.code eE::.code ez::[]) (sT 129 [(3,.hp 1 0 [] 2 0 0),(4,.hp 2 0 [] 5 0 0),(7,.hp 3 0 [] 4 0 0),(117,B u31)] [⟨0,2,[aa c_1]⟩,⟨0,5,[ae s_2]⟩,⟨0,4,[ah e4]⟩] 4):=by
      subst h
      exact rf [3,4,7,117] [1,2,3] (j24 :)
     replace h:=hu31
     clear hu31
     refine sp 100 h rfl ?_ ?_<;>intro h
     ·refine dy [3] [] (.hp 3 0 [] 4 0 2) rfl (an rfl rfl rfl) ?_
      refine dy [3] [] (I e4.Due) rfl (aN rfl rfl) ?_
      refine dy [2] [] (.hp 2 0 [] 5 0 0) rfl (an rfl rfl rfl) ?_
      refine dy [2] [] (I s_2.Day) rfl (aN rfl rfl) ?_
      refine dk 4 [108,107,106,105] [B (decide (e4.Due≥s_2.Day)),B (decide (e4.Due≥s_2.Day)),B (decide (e4.Due≥s_2.Day)),B (decide (e4.Due≥s_2.Day))] ?_
      obtain⟨u32,hu32,h⟩:=lJ h
      have j32:Run ec 0 (cT (c_1,s_2,k_3) r) (.code eE::.code ez::[]) (sT 129 [(3,.hp 1 0 [] 2 0 0),(4,.hp 2 0 [] 5 0 0),(7,.hp 3 0 [] 4 0 0),(117,B u32)] [⟨0,2,[aa c_1]⟩,⟨0,5,[ae s_2]⟩,⟨0,4,[ah e4]⟩] 4):=by
       subst h
       exact rf [3,4,7,117] [1,2,3] (j31 :)
      replace h:=hu32
      clear hu32
      refine sp 108 h rfl ?_ ?_<;>intro h
      ·refine dk 9 [117,116,115,114,113,112,111,110,109] [B true,.und,.und,.und,.und,.und,.und,.und,.und] ?_
       refine de 836 rfl rfl ?_
       subst h
       exact rf [3,4,7,117] [1,2,3] (j32 :)
      ·refine dy [3] [] (.hp 3 0 [] 4 0 3) rfl (an rfl rfl rfl) ?_
       refine dy [3] [] (I e4.Status) rfl (aN rfl rfl) ?_
       refine dk 2 [112,111] [B (e4.Status==4),B (e4.Status==4)] ?_
       obtain⟨u33,hu33,h⟩:=lJ h
       have j33:Run ec 0 (cT (c_1,s_2,k_3) r) (.code eE::.code ez::[]) (sT 129 [(3,.hp 1 0 [] 2 0 0),(4,.hp 2 0 [] 5 0 0),(7,.hp 3 0 [] 4 0 0),(117,B u33)] [⟨0,2,[aa c_1]⟩,⟨0,5,[ae s_2]⟩,⟨0,4,[ah e4]⟩] 4):=by
        subst h
        exact rf [3,4,7,117] [1,2,3] (j32 :)
       replace h:=hu33
       clear hu33
       refine sp 112 h rfl ?_ ?_<;>intro h
       ·refine dy [2] [] (.hp 2 0 [] 5 0 4) rfl (an rfl rfl rfl) ?_
        refine dy [2] [] (B s_2.Over) rfl (aN rfl rfl) ?_
        refine dk 3 [117,116,115] [B (!s_2.Over),B (!s_2.Over),B (!s_2.Over)] ?_
        refine de 836 rfl rfl ?_
        subst h
        exact rf [3,4,7,117] [1,2,3] (j33 :)
       ·refine dk 5 [117,116,115,114,113] [B false,B false,.und,.und,.und] ?_
        refine de 836 rfl rfl ?_
        subst h
        exact rf [3,4,7,117] [1,2,3] (j33 :)
     ·refine dk 8 [108,107,106,105,104,103,102,101] [B false,B false,B false,.und,.und,.und,.und,.und] ?_
      refine dy [3] [] (.hp 3 0 [] 4 0 3) rfl (an rfl rfl rfl) ?_
      refine dy [3] [] (I e4.Status) rfl (aN rfl rfl) ?_
      refine dk 2 [112,111] [B (e4.Status==4),B (e4.Status==4)] ?_
      obtain⟨u34,hu34,h⟩:=lJ h
      have j34:Run ec 0 (cT (c_1,s_2,k_3) r) (.code eE::.code ez::[]) (sT 129 [(3,.hp 1 0 [] 2 0 0),(4,.hp 2 0 [] 5 0 0),(7,.hp 3 0 [] 4 0 0),(117,B u34)] [⟨0,2,[aa c_1]⟩,⟨0,5,[ae s_2]⟩,⟨0,4,[ah e4]⟩] 4):=by
       subst h
       exact rf [3,4,7,117] [1,2,3] (j31 :)
      replace h:=hu34
      clear hu34
      refine sp 112 h rfl ?_ ?_<;>intro h
      ·refine dy [2] [] (.hp 2 0 [] 5 0 4) rfl (an rfl rfl rfl) ?_
       refine dy [2] [] (B s_2.Over) rfl (aN rfl rfl) ?_
       refine dk 3 [117,116,115] [B (!s_2.Over),B (!s_2.Over),B (!s_2.Over)] ?_
       refine de 836 rfl rfl ?_
       subst h
       exact rf [3,4,7,117] [1,2,3] (j34 :)
      ·refine dk 5 [117,116,115,114,113] [B false,B false,.und,.und,.und] ?_
       refine de 836 rfl rfl ?_
       subst h
       exact rf [3,4,7,117] [1,2,3] (j34 :)
 have r6:∀r',y6=.inl r'→∀st,cT (c_1,s_2,k_3) r' st→(cT (c_1,s_2,k_3) r) st:=fun r' e st hq=>by rw[hy61 r' e] at hq;exact hq
 replace h:=hy6
 refine sp 21 h rfl ?_ ?_<;>intro h
 ·refine dk 44 [65,64,63,62,61,60,59,58,57,56,55,54,53,52,51,50,49,48,47,46,45,44,43,42,41,40,39,38,37,36,35,34,33,32,31,30,29,28,27,26,25,24,23,22] [B true,.und,.und,.und,.und,B true,B true,.und,.und,.und,.und,B true,B true,.und,.und,.und,.und,.und,.und,.und,.und,.und,.und,.und,.und,.und,B true,B true,.und,.und,.und,.und,.und,.und,B true,B true,.und,.und,.und,.und,.und,.und,.und,.und] ?_
  refine de 1009 rfl rfl ?_
  exact rf [2,3,4,7,65] [1,17,129] (j6 _ (ak h) :)
 ·refine dy [1] [] (.hp 1 0 [] 2 0 1) rfl (an rfl rfl rfl) ?_
  refine dy [1] [] (.isl false (c_1.Clauses.map au)) rfl (aN rfl rfl) ?_
  refine dy [129] [] (.hp 129 0 [] 4 0 0) rfl (an rfl rfl rfl) ?_
  refine dy [129] [] (I e4.Clause) rfl (aN rfl rfl) ?_
  obtain⟨e35,he35,h⟩:=bS h
  refine dy [] [] (.iptr (az e35) 0) rfl (aj rfl rfl rfl (bd rfl rfl rfl rfl he35)) ?_
  refine dy [] [] (.iptr (az e35) 1) rfl (an rfl rfl rfl) ?_
  refine dy [] [] (I e35.Kind) rfl (aN rfl rfl) ?_
  refine dk 3 [31,30,29] [B (e35.Kind != 1),B (e35.Kind != 1),B (e35.Kind != 1)] ?_
  obtain⟨y36,hy36,hy361,hy362⟩:=bL h
  have j36:∀u36,y36=.inr u36→Run ec 0 (cT (c_1,s_2,k_3) r) (.code tP::.code oV::[]) (sT 129 [(2,I k_3),(3,.hp 1 0 [] 2 0 0),(4,.hp 2 0 [] 5 0 0),(7,.hp 3 0 [] 4 0 0),(65,B u36)] [⟨0,2,[aa c_1]⟩,⟨0,5,[ae s_2]⟩,⟨0,4,[ah e4]⟩] 4):=by
   intro u36 hu
   replace h:=hy362 u36 hu
   exact rf [2,3,4,7,65] [1,2,3] (j6 _ (ak h) :)
  have r36:∀r',y36=.inl r'→∀st,cT (c_1,s_2,k_3) r' st→(cT (c_1,s_2,k_3) r) st:=fun r' e st hq=>r6 r' (hy361 r' e) st hq
  replace h:=hy36
  refine sp 31 h rfl ?_ ?_<;>intro h
  ·refine dk 34 [65,64,63,62,61,60,59,58,57,56,55,54,53,52,51,50,49,48,47,46,45,44,43,42,41,40,39,38,37,36,35,34,33,32] [B true,.und,.und,.und,.und,B true,B true,.und,.und,.und,.und,B true,B true,.und,.und,.und,.und,.und,.und,.und,.und,.und,.und,.und,.und,.und,B true,B true,.und,.und,.und,.und,.und,.und] ?_
   refine de 1009 rfl rfl ?_
   exact rf [2,3,4,7,65] [1,17,129] (j36 _ (ak h) :)
  ·refine dy [129] [] (.hp 129 0 [] 4 0 1) rfl (an rfl rfl rfl) ?_
   refine dy [129] [] (I e4.Since) rfl (aN rfl rfl) ?_
   refine dy [17] [] (.hp 17 0 [] 5 0 0) rfl (an rfl rfl rfl) ?_
   refine dy [17] [] (I s_2.Day) rfl (aN rfl rfl) ?_
   obtain⟨r37,hr37,h⟩:=bS h
   refine dy [] [] (B r37) rfl (cP (eu hr37)) ?_ (dU rfl rfl rfl rfl (bC (cg rfl) (bC (cg rfl) (bC (cg rfl) dM))) (eu hr37) (.inr rfl) rfl)
   refine dk 3 [39,38,37] [B (!r37),B (!r37),B (!r37)] ?_
   obtain⟨y38,hy38,hy381,hy382⟩:=bL h
   have j38:∀u38,y38=.inr u38→Run ec 0 (cT (c_1,s_2,k_3) r) (.code tP::.code oV::[]) (sT 129 [(2,I k_3),(3,.hp 1 0 [] 2 0 0),(4,.hp 2 0 [] 5 0 0),(7,.hp 3 0 [] 4 0 0),(65,B u38)] [⟨0,2,[aa c_1]⟩,⟨0,5,[ae s_2]⟩,⟨0,4,[ah e4]⟩] 4):=by
    intro u38 hu
    replace h:=hy382 u38 hu
    exact rf [2,3,4,7,65] [1,2,3] (j36 _ (ak h) :)
   have r38:∀r',y38=.inl r'→∀st,cT (c_1,s_2,k_3) r' st→(cT (c_1,s_2,k_3) r) st:=fun r' e st hq=>r36 r' (hy381 r' e) st hq
   replace h:=hy38
   refine sp 39 h rfl ?_ ?_<;>intro h
   ·refine dk 26 [65,64,63,62,61,60,59,58,57,56,55,54,53,52,51,50,49,48,47,46,45,44,43,42,41,40] [B true,.und,.und,.und,.und,B true,B true,.und,.und,.und,.und,B true,B true,.und,.und,.und,.und,.und,.und,.und,.und,.und,.und,.und,.und,.und] ?_
    refine de 1009 rfl rfl ?_
    exact rf [2,3,4,7,65] [1,17,129] (j38 _ (ak h) :)
   ·refine dy [129] [] (.hp 129 0 [] 4 0 2) rfl (an rfl rfl rfl) ?_
    refine dy [129] [] (I e4.Due) rfl (aN rfl rfl) ?_
    refine dy [129] [] (.hp 129 0 [] 4 0 1) rfl (an rfl rfl rfl) ?_
    refine dy [129] [] (I e4.Since) rfl (aN rfl rfl) ?_
    refine dy [1] [] (.hp 1 0 [] 2 0 1) rfl (an rfl rfl rfl) ?_
    refine dy [1] [] (.isl false (c_1.Clauses.map au)) rfl (aN rfl rfl) ?_
    refine dy [129] [] (.hp 129 0 [] 4 0 0) rfl (an rfl rfl rfl) ?_
    refine dy [129] [] (I e4.Clause) rfl (aN rfl rfl) ?_
    obtain⟨e39,he39,h⟩:=bS h
    refine dy [] [] (.iptr (az e39) 0) rfl (aj rfl rfl rfl (bd rfl rfl rfl rfl he39)) ?_
    refine dy [] [] (.iptr (az e39) 10) rfl (an rfl rfl rfl) ?_
    refine dy [] [] (I e39.Within) rfl (aN rfl rfl) ?_
    refine dk 4 [54,53,52,51] [B (e4.Due != (ai (e4.Since+e39.Within))),B (e4.Due != (ai (e4.Since+e39.Within))),B (e4.Due != (ai (e4.Since+e39.Within))),I (ai (e4.Since+e39.Within))] ?_
    obtain⟨y40,hy40,hy401,hy402⟩:=bL h
    have j40:∀u40,y40=.inr u40→Run ec 0 (cT (c_1,s_2,k_3) r) (.code tP::.code oV::[]) (sT 129 [(2,I k_3),(3,.hp 1 0 [] 2 0 0),(4,.hp 2 0 [] 5 0 0),(7,.hp 3 0 [] 4 0 0),(65,B u40)] [⟨0,2,[aa c_1]⟩,⟨0,5,[ae s_2]⟩,⟨0,4,[ah e4]⟩] 4):=by
     intro u40 hu
     replace h:=hy402 u40 hu
     exact rf [2,3,4,7,65] [1,2,3] (j38 _ (ak h) :)
    have r40:∀r',y40=.inl r'→∀st,cT (c_1,s_2,k_3) r' st→(cT (c_1,s_2,k_3) r) st:=fun r' e st hq=>r38 r' (hy401 r' e) st hq
    replace h:=hy40
    refine sp 54 h rfl ?_ ?_<;>intro h
    ·refine dk 11 [65,64,63,62,61,60,59,58,57,56,55] [B true,.und,.und,.und,.und,B true,B true,.und,.und,.und,.und] ?_
     refine de 1009 rfl rfl ?_
     exact rf [2,3,4,7,65] [1,17,129] (j40 _ (ak h) :)
    ·refine dy [129] [] (.hp 129 0 [] 4 0 2) rfl (an rfl rfl rfl) ?_
     refine dy [129] [] (I e4.Due) rfl (aN rfl rfl) ?_
     obtain⟨r41,hr41,h⟩:=bS h
     refine dy [] [] (B r41) rfl (cP (EP hr41)) ?_ (dU rfl rfl rfl rfl (bC (cg rfl) dM) (EP hr41) (.inr rfl) rfl)
     refine dk 3 [60,59,58] [B (!r41),B (!r41),B (!r41)] ?_
     obtain⟨y42,hy42,hy421,hy422⟩:=bL h
     have j42:∀u42,y42=.inr u42→Run ec 0 (cT (c_1,s_2,k_3) r) (.code tP::.code oV::[]) (sT 129 [(2,I k_3),(3,.hp 1 0 [] 2 0 0),(4,.hp 2 0 [] 5 0 0),(7,.hp 3 0 [] 4 0 0),(65,B u42)] [⟨0,2,[aa c_1]⟩,⟨0,5,[ae s_2]⟩,⟨0,4,[ah e4]⟩] 4):=by
      intro u42 hu
      replace h:=hy422 u42 hu
      exact rf [2,3,4,7,65] [1,2,3] (j40 _ (ak h) :)
     have r42:∀r',y42=.inl r'→∀st,cT (c_1,s_2,k_3) r' st→(cT (c_1,s_2,k_3) r) st:=fun r' e st hq=>r40 r' (hy421 r' e) st hq
     replace h:=hy42
     refine sp 60 h rfl ?_ ?_<;>intro h
     ·refine dk 5 [65,64,63,62,61] [B true,.und,.und,.und,.und] ?_
      refine de 1009 rfl rfl ?_
      exact rf [2,3,4,7,65] [1,17,129] (j42 _ (ak h) :)
     ·refine dy [129] [] (.hp 129 0 [] 4 0 3) rfl (an rfl rfl rfl) ?_
      refine dy [129] [] (I e4.Status) rfl (aN rfl rfl) ?_
      obtain⟨r43,hr43,h⟩:=bS h
      refine dy [] [] (B r43) rfl (cP (eu hr43)) ?_ (dU rfl rfl rfl rfl (bC (cg rfl) (bC (cg rfl) (bC (cg rfl) dM))) (eu hr43) (.inr rfl) rfl)
      refine dk 2 [65,64] [B (!r43),B (!r43)] ?_
      refine de 1009 rfl rfl ?_
      exact rf [2,3,4,7,65] [1,17,129] (j42 _ (ak h) :)
theorem Tc {G:Go.Ln.Ground}:aV Tryz.prog G 144 B7:=gT 3 0 (aM gO (aM S0 (aM Tb (aM wD bF)))) ci Tryz.func144 (fun a r h=>We a.1 a.2.1 a.2.2 r h)
noncomputable def EJ:Int→List V:=oA I
noncomputable def EK (r:Bool):V×List V:=(B r,[])
noncomputable def BK:Ent:=bm [false] EJ EK fun x=>BI x
theorem abd {x_1:Int}{r}(h:BI x_1=some r):BK.F (EJ x_1)=some (EK r):=aI (aJ bG) h
noncomputable def abf:Code:=aG Tryz.f145
noncomputable def Sx:Env:=b7 Tryz.prog [(128,fO)]
noncomputable def abe (x:Int)(r:Bool):St→Prop:=QF Sx Tryz.f145 [false] (EJ x) (EK r)
theorem VQ (x_1:Int)(r:Bool)(h:BI x_1=some r):bA Sx Tryz.f145 [false] 0 (EJ x_1) (EK r):=by
 show Run _ _ (abe x_1 r) [.code abf] _
 refine rI 5 [(0,I x_1)] [] 1 ?_
 unfold BI at h
 refine cq 7 [3] [I x_1] 33 ?_
 obtain⟨r2,hr2,h⟩:=bS h
 refine oq 49 (B r2) rfl (cP (eu hr2)) ?_
 refine cq 2 [2] [B r2] 65 ?_
 obtain rfl:=Option.some.inj h
 exact rP [B r2]
theorem Sz {G:Go.Ln.Ground}:aV Tryz.prog G 145 BK:=gT 1 0 (aM gO bF) ci Tryz.func145 (fun a r h=>VQ a r h)
noncomputable def EL:(List Int)→List V:=oA (fY I)
noncomputable def EM (r:Int):V×List V:=(I r,[])
noncomputable def BL:Ent:=bm [false] EL EM fun x=>uQ x
theorem abg {aw:List Int}{r}(h:uQ aw=some r):BL.F (EL aw)=some (EM r):=aI (aJ (ce bG)) h
noncomputable def SB:Code:=aG Tryz.f146
noncomputable def KQ:Env:=b7 Tryz.prog []
noncomputable def SA (x:(List Int))(r:Int):St→Prop:=QF KQ Tryz.f146 [false] (EL x) (EM r)
theorem Nh (aw:List Int):cj KQ 0 (SA aw) (cL (cL (cR (cL (cR (cR SB)))))) 0 (kJ aw) (fun u=>(sT 18 [(3,I u)] [] 1)) fun x2=>(sT 18 [(0,.isl false (aw.map I)),(3,I x2.1),(4,I x2.2)] [] 1):=ef (zp aw) fun {Q K} hK self ih x2 y h hr hn=>by
 unfold lm at h
 refine cq 5 [5,6] [I x2.2,.isl false (aw.map I)] 33 ?_
 refine oq 49 (I (len aw)) rfl (bu rfl rfl rfl (bI rfl)) ?_
 refine cq 2 [8] [B (decide (x2.2<(len aw)))] 65 ?_
 refine sq h ?_ ?_<;>intro h
 ·refine aq 1 ?_
  refine cq 6 [11,12,13] [I x2.1,.isl false (aw.map I),I x2.2] 113 ?_
  obtain⟨e3,he3,h⟩:=bS h
  refine oq 129 (.iptr (I e3) 0) rfl (aj rfl rfl rfl (bd rfl rfl rfl rfl he3)) ?_
  refine cq 10 [3,4] [I (ai (x2.1+e3)),I (ai (x2.2+1))] 225 ?_
  refine cZ ?_
  exact rf [0,3,4] [] (ih _ _ h hr hn :)
 ·refine aq 1 ?_
  exact rf [3] [] (hn _ (ak h) :) (hk:=hK)
theorem VR (aw:List Int)(r:Int)(h:uQ aw=some r):bA KQ Tryz.f146 [false] 0 (EL aw) (EM r):=by
 show Run _ _ (SA aw r) [.code SB] _
 refine rI 18 [(0,.isl false (aw.map I))] [] 1 ?_
 unfold uQ at h
 refine cq 14 [3,4] [I (0),I (0)] 49 ?_
 obtain⟨y4,hy4,hy41,hy42⟩:=bJ h
 refine bN rfl ?_
 refine rf [0,3,4] [] (Nh aw rfl (0,0) _ hy4 (fun r' e st hq=>by rw[hy41 r' e] at hq;exact hq) fun u4 hu=>?_)
 replace h:=hy42 u4 hu
 refine cq 5 [2] [I u4] 33 ?_
 obtain rfl:=Option.some.inj h
 exact rP [I u4]
theorem SC {G:Go.Ln.Ground}:aV Tryz.prog G 146 BL:=gT 1 0 bF ci Tryz.func146 (fun a r h=>VR a r h)
noncomputable def FB:(Contract×State)→List V:=cA aX (oA bK)
noncomputable def FC (r:Bool):V×List V:=(B r,[])
noncomputable def B8:Ent:=bm [false,false] FB FC fun x=>uZ x.1 x.2
theorem abv {c_1:Contract}{s_2:State}{r}(h:uZ c_1 s_2=some r):B8.F (FB (c_1,s_2))=some (FC r):=aI (aU bn (aJ cd)) h
noncomputable def kx:Code:=aG Tryz.f81
noncomputable def nP:Env:=b7 Tryz.prog [(62,B2),(132,uX),(143,uT),(144,B7),(145,BK),(146,BL),(63,qV),(142,BN)]
noncomputable def kw (x:Contract×State)(r:Bool):St→Prop:=QF nP Tryz.f81 [false,false] (FB x) (FC r)
theorem Nv (c_1:Contract)(s_2:State)(r5:(List ac)):cj nP 0 (kw (c_1,s_2)) (cL (cL (cR (cL (cR (cR (cR kx))))))) 0 (tQ c_1 s_2 r5) (fun u=>(sT 86 [(2,.hp 1 0 [] 2 0 0),(3,.hp 2 0 [] 5 0 0)] [⟨0,2,[aa c_1]⟩,⟨0,5,[ae s_2]⟩] 3)) fun x6=>(sT 86 [(2,.hp 1 0 [] 2 0 0),(3,.hp 2 0 [] 5 0 0),(5,.hs 3 0 [] 1 0 (r5.map str).length),(6,I x6)] [⟨0,2,[aa c_1]⟩,⟨0,5,[ae s_2]⟩,⟨0,1,r5.map str⟩] 4):=ef (zF c_1 s_2 r5) fun {Q K} hK self ih x6 y h hr hn=>by
 unfold nt at h
 refine cq 6 [41,43] [I x6,.isl false (s_2.Facts.map str)] 52 ?_
 refine oq 68 (I (len s_2.Facts)) rfl (bu rfl rfl rfl (bI rfl)) ?_
 refine cq 2 [45] [B (decide (x6<(len s_2.Facts)))] 84 ?_
 refine sq h ?_ ?_<;>intro h
 ·refine aq 1 ?_
  refine cq 8 [48,50,51] [.hs 3 0 [] 1 0 (r5.map str).length,.isl false (s_2.Facts.map str),I x6] 148 ?_
  obtain⟨e7,he7,h⟩:=bS h
  refine oq 164 (.iptr (str e7) 0) rfl (aj rfl rfl rfl (bd rfl rfl rfl rfl he7)) ?_
  refine cq 1 [53] [str e7] 180 ?_
  obtain⟨r8,hr8,h⟩:=bS h
  refine oq 196 (B r8) rfl (cm rfl rfl (cU rfl rfl rfl (bC (sh1 rfl rfl (fy (f:=str) (g:=str) (xs:=r5) rfl rfl (cG fZ))) (bC (cg rfl) dM)) (KU hr8) (.inl rfl) ew rfl rfl rfl)) ?_
  refine cq 2 [55] [B (!r8)] 212 ?_
  refine sq h ?_ ?_<;>intro h
  ·refine cq 4 [4] [B false] 228 ?_
   exact co rfl (hr _ (ak h) _ (qp [B false]))
  ·refine aq 1 ?_
   refine cq 6 [6] [I (ai (x6+1))] 260 ?_
   refine cZ ?_
   exact rf [2,3,5,6] [1,2,3] (ih _ _ h hr hn :)
 ·refine aq 1 ?_
  exact rf [2,3] [1,2] (hn _ (ak h) :) (hk:=hK)
theorem Nw (c_1:Contract)(s_2:State):cj nP 0 (kw (c_1,s_2)) (cL (cL (cR (cL (cR (cR (cR (cR kx)))))))) 2 (nu c_1 s_2) (fun u=>(sT 86 [(3,.hp 1 0 [] 5 0 0)] [⟨0,5,[ae s_2]⟩] 2)) fun x10=>(sT 86 [(2,.hp 1 0 [] 2 0 0),(3,.hp 2 0 [] 5 0 0),(7,I x10)] [⟨0,2,[aa c_1]⟩,⟨0,5,[ae s_2]⟩] 3):=ef (zG c_1 s_2) fun {Q K} hK self ih x10 y h hr hn=>by
 unfold lz at h
 refine cq 6 [56,58] [I x10,.isl false (s_2.Duties.map ah)] 51 ?_
 refine oq 67 (I (len s_2.Duties)) rfl (bu rfl rfl rfl (bI rfl)) ?_
 refine cq 2 [60] [B (decide (x10<(len s_2.Duties)))] 83 ?_
 refine sq h ?_ ?_<;>intro h
 ·refine aq 1 ?_
  refine cq 7 [63,64,65] [aa c_1,ae s_2,I x10] 131 ?_
  obtain⟨r11,hr11,h⟩:=bS h
  refine oq 147 (B r11) rfl (cP (abu hr11)) ?_
  refine cq 2 [67] [B (!r11)] 163 ?_
  refine sq h ?_ ?_<;>intro h
  ·refine cq 4 [4] [B false] 179 ?_
   exact co rfl (hr _ (ak h) _ (qp [B false]))
  ·refine aq 1 ?_
   refine cq 6 [7] [I (ai (x10+1))] 211 ?_
   refine cZ ?_
   exact rf [2,3,7] [1,2] (ih _ _ h hr hn :)
 ·refine aq 1 ?_
  exact rf [3] [2] (hn _ (ak h) :) (hk:=hK)
theorem Nx (c_1:Contract)(s_2:State):cj nP 0 (kw (c_1,s_2)) (cL (cL (cR (cL (cR (cR (cR (cR (cR kx))))))))) 4 (tR c_1 s_2) (fun u=>(sT 86 [(3,.hp 1 0 [] 5 0 0)] [⟨0,5,[ae s_2]⟩] 2)) fun x13=>(sT 86 [(3,.hp 1 0 [] 5 0 0),(8,I x13)] [⟨0,5,[ae s_2]⟩] 2):=ef (zH c_1 s_2) fun {Q K} hK self ih x13 y h hr hn=>by
 unfold ny at h
 refine cq 6 [68,70] [I x13,.isl false (s_2.Balances.map I)] 50 ?_
 refine oq 66 (I (len s_2.Balances)) rfl (bu rfl rfl rfl (bI rfl)) ?_
 refine cq 2 [72] [B (decide (x13<(len s_2.Balances)))] 82 ?_
 refine sq h ?_ ?_<;>intro h
 ·refine aq 1 ?_
  refine cq 7 [76,77] [.isl false (s_2.Balances.map I),I x13] 130 ?_
  obtain⟨e14,he14,h⟩:=bS h
  refine oq 146 (.iptr (I e14) 0) rfl (aj rfl rfl rfl (bd rfl rfl rfl rfl he14)) ?_
  refine cq 1 [79] [I e14] 162 ?_
  obtain⟨r15,hr15,h⟩:=bS h
  refine oq 178 (B r15) rfl (cP (abd hr15)) ?_
  refine cq 2 [81] [B (!r15)] 194 ?_
  refine sq h ?_ ?_<;>intro h
  ·refine cq 4 [4] [B false] 210 ?_
   exact co rfl (hr _ (ak h) _ (qp [B false]))
  ·refine aq 1 ?_
   refine cq 6 [8] [I (ai (x13+1))] 242 ?_
   refine cZ ?_
   exact rf [3,8] [1] (ih _ _ h hr hn :)
 ·refine aq 1 ?_
  exact rf [3] [1] (hn _ (ak h) :) (hk:=hK)
theorem Wf (c_1:Contract)(s_2:State)(r:Bool)(h:uZ c_1 s_2=some r):bA nP Tryz.f81 [false,false] 0 (FB (c_1,s_2)) (FC r):=by
 show Run _ _ (kw (c_1,s_2) r) [.code kx] _
 refine rI 86 [(0,aa c_1),(1,ae s_2)] [] 1 ?_
 unfold uZ at h
 refine ck 10 [2,3,9] [] [1,17] [] [.hp 1 0 [] 2 0 0,.hp 17 0 [] 5 0 0,aa c_1] [some ⟨0,2,[aa c_1]⟩,some ⟨0,5,[ae s_2]⟩] 65 (by kernel_rfl) ?_
 obtain⟨r3,hr3,h⟩:=bS h
 refine oq 81 (B r3) rfl (cP (abq hr3)) ?_
 refine cq 2 [12] [B (!r3)] 113 ?_
 obtain⟨y4,hy4,hy41,hy42⟩:=bJ h
 have j4:∀u4,y4=.inr u4→Run nP 0 (kw (c_1,s_2) r) (.code (cR (cL (cR kx)))::.code (cR (cR kx))::[]) (sT 86 [(2,.hp 1 0 [] 2 0 0),(3,.hp 2 0 [] 5 0 0),(38,B u4)] [⟨0,2,[aa c_1]⟩,⟨0,5,[ae s_2]⟩] 3):=by
  intro u4 hu
  replace h:=hy42 u4 hu
  refine sq h ?_ ?_<;>intro h
  ·refine cq 4 [4] [B false] 19 ?_
   obtain rfl:=Option.some.inj h
   exact rP [B false]
  ·refine aq 1 ?_
   refine cq 3 [39] [aa c_1] 19 ?_
   obtain⟨r5,hr5,h⟩:=bS h
   refine oq 35 (.hs 19 0 [] 1 0 (r5.map str).length) rfl (cP (S4 hr5)) ?_
   refine cq 8 [5,6] [.hs 19 0 [] 1 0 (r5.map str).length,I (0)] 67 ?_
   obtain⟨y9,hy9,hy91,hy92⟩:=bJ h
   refine bN rfl ?_
   refine rf [2,3,5,6] [1,2,19] (Nv c_1 s_2 r5 rfl 0 _ hy9 (fun r' e st hq=>by rw[hy91 r' e] at hq;exact hq) fun u9 hu=>?_)
   replace h:=hy92 u9 hu
   refine cq 6 [7] [I (0)] 19 ?_
   obtain⟨y12,hy12,hy121,hy122⟩:=bJ h
   refine bN rfl ?_
   refine rf [2,3,7] [1,2] (Nw c_1 s_2 rfl 0 _ hy12 (fun r' e st hq=>by rw[hy121 r' e] at hq;exact hq) fun u12 hu=>?_)
   replace h:=hy122 u12 hu
   refine cq 6 [8] [I (0)] 18 ?_
   obtain⟨y16,hy16,hy161,hy162⟩:=bJ h
   refine bN rfl ?_
   refine rf [3,8] [1] (Nx c_1 s_2 rfl 0 _ hy16 (fun r' e st hq=>by rw[hy161 r' e] at hq;exact hq) fun u16 hu=>?_)
   replace h:=hy162 u16 hu
   refine cq 4 [83] [.isl false (s_2.Balances.map I)] 34 ?_
   obtain⟨r17,hr17,h⟩:=bS h
   refine oq 50 (I r17) rfl (cP (abg hr17)) ?_
   refine cq 3 [4] [B (r17==0)] 82 ?_
   obtain rfl:=Option.some.inj h
   exact rP [B (r17==0)]
 have r4:∀r',y4=.inl r'→∀st,kw (c_1,s_2) r' st→(kw (c_1,s_2) r) st:=fun r' e st hq=>by rw[hy41 r' e] at hq;exact hq
 replace h:=hy4
 refine sp 12 h rfl ?_ ?_<;>intro h
 ·refine cq 27 [38] [B true] 529 ?_
  exact rf [2,3,38] [1,17] (j4 _ (ak h) :)
 ·refine cq 2 [14] [I s_2.Day] 145 ?_
  obtain⟨r18,hr18,h⟩:=bS h
  refine oy 161 (B r18) rfl (cP (EP hr18)) ?_
  refine cq 3 [18] [B (!r18)] 209 ?_
  obtain⟨y19,hy19,hy191,hy192⟩:=bL h
  have j19:∀u19,y19=.inr u19→Run nP 0 (kw (c_1,s_2) r) (.code (cR (cL (cR kx)))::.code (cR (cR kx))::[]) (sT 86 [(2,.hp 1 0 [] 2 0 0),(3,.hp 2 0 [] 5 0 0),(38,B u19)] [⟨0,2,[aa c_1]⟩,⟨0,5,[ae s_2]⟩] 3):=by
   intro u19 hu
   replace h:=hy192 u19 hu
   exact rf [2,3,38] [1,2] (j4 _ (ak h) :)
  have r19:∀r',y19=.inl r'→∀st,kw (c_1,s_2) r' st→(kw (c_1,s_2) r) st:=fun r' e st hq=>r4 r' (hy191 r' e) st hq
  replace h:=hy19
  refine sp 18 h rfl ?_ ?_<;>intro h
  ·refine cq 21 [38] [B true] 529 ?_
   exact rf [2,3,38] [1,17] (j19 _ (ak h) :)
  ·refine cq 2 [20] [.isl false (s_2.Facts.map str)] 241 ?_
   obtain⟨r20,hr20,h⟩:=bS h
   refine oy 257 (B r20) rfl (cP (abj hr20)) ?_
   refine cq 3 [24] [B (!r20)] 305 ?_
   obtain⟨u21,hu21,h⟩:=lJ h
   have j21:Run nP 0 (kw (c_1,s_2) r) (.code (cR (cL (cR kx)))::.code (cR (cR kx))::[]) (sT 86 [(2,.hp 1 0 [] 2 0 0),(3,.hp 2 0 [] 5 0 0),(38,B u21)] [⟨0,2,[aa c_1]⟩,⟨0,5,[ae s_2]⟩] 3):=by
    exact rf [2,3,38] [1,2] (j19 _ (ak h) :)
   replace h:=hu21
   clear hu21
   refine sp 24 h rfl ?_ ?_<;>intro h
   ·refine cq 15 [38] [B true] 529 ?_
    subst h
    exact rf [2,3,38] [1,17] (j21 :)
   ·refine cq 2 [26] [.isl false (s_2.Duties.map ah)] 337 ?_
    refine oy 353 (I (len s_2.Duties)) rfl (bu rfl rfl rfl (bI rfl)) ?_
    refine cq 3 [30] [B (decide ((len s_2.Duties)>24))] 401 ?_
    obtain⟨u22,hu22,h⟩:=lJ h
    have j22:Run nP 0 (kw (c_1,s_2) r) (.code (cR (cL (cR kx)))::.code (cR (cR kx))::[]) (sT 86 [(2,.hp 1 0 [] 2 0 0),(3,.hp 2 0 [] 5 0 0),(38,B u22)] [⟨0,2,[aa c_1]⟩,⟨0,5,[ae s_2]⟩] 3):=by
     subst h
     exact rf [2,3,38] [1,2] (j21 :)
    replace h:=hu22
    clear hu22
    refine sp 30 h rfl ?_ ?_<;>intro h
    ·refine cq 9 [38] [B true] 529 ?_
     subst h
     exact rf [2,3,38] [1,17] (j22 :)
    ·refine cq 2 [32] [.isl false (s_2.Balances.map I)] 433 ?_
     refine oy 449 (I (len s_2.Balances)) rfl (bu rfl rfl rfl (bI rfl)) ?_
     refine cq 2 [35] [.isl false (c_1.Parties.map str)] 481 ?_
     refine oy 497 (I (len c_1.Parties)) rfl (bu rfl rfl rfl (bI rfl)) ?_
     refine cq 3 [38] [B ((len s_2.Balances) != (len c_1.Parties))] 529 ?_
     subst h
     exact rf [2,3,38] [1,17] (j22 :)
theorem Td {G:Go.Ln.Ground}:aV Tryz.prog G 81 B8:=gT 2 0 (aM S3 (aM Ib (aM H8 (aM Tc (aM Sz (aM SC (aM wD (aM SF bF)))))))) ci Tryz.func81 (fun a r h=>Wf a.1 a.2 r h)
noncomputable def EF:(State×(List Int)×Int)→List V:=cA bK (cA (fY I) (oA I))
noncomputable def EH (r:(List Int)):V×List V:=(.usl 1 (r.map I),[])
noncomputable def BH:Ent:=bm [false,false,false] EF EH fun x=>uO x.1 x.2.1 x.2.2
theorem abc {s_1:State}{du:List Int}{k_3:Int}{r}(h:uO s_1 du k_3=some r):BH.F (EF (s_1,du,k_3))=some (EH r):=aI (aU cd (aU (ce bG) (aJ bG))) h
noncomputable def wC:Code:=aG Tryz.f147
noncomputable def EG:Env:=b7 Tryz.prog []
noncomputable def KP (x:State×(List Int)×Int)(r:(List Int)):St→Prop:=QF EG Tryz.f147 [false,false,false] (EF x) (EH r)
theorem Ng (s_1:State)(du:List Int)(k_3:Int):cj EG 0 (KP (s_1,du,k_3)) (cL (cL (cL (cR (cR wC))))) 0 (oS s_1 du k_3) (fun u=>(sT 45 [(1,.isl false (du.map I)),(2,I k_3),(7,I u)] [] 1)) fun x4=>(sT 45 [(1,.isl false (du.map I)),(2,I k_3),(3,.hp 1 0 [] 5 0 0),(7,I x4)] [⟨0,5,[ae s_1]⟩] 2):=ef (zo s_1 du k_3) fun {Q K} hK self ih x4 y h hr hn=>by
 unfold lj at h
 refine aq 2 ?_
 refine dK [0,1,3,7,15,7,7,71,231,487,1023,2047,4095,7,8199,7,57351,122887,253959,524287,1048575] rfl (by decide +kernel) ?_
 refine dk 3 [12,11,10] [B (decide (x4>0)),B (decide (x4>0)),I x4] ?_
 obtain⟨y5,hy5,hy51,hy52⟩:=bL h
 have j5:∀u5,y5=.inr u5→Run EG 0 Q (.code (cR (cL (cL (cL (cL (cR (cR wC)))))))::.code (cR (cL (cL (cL (cR (cR wC))))))::.lp (cL (cL (cL (cR (cR wC)))))::.blk 0::K) (sT 45 [(1,.isl false (du.map I)),(2,I k_3),(3,.hp 1 0 [] 5 0 0),(7,I x4),(30,B u5)] [⟨0,5,[ae s_1]⟩] 2):=by
  intro u5 hu
  replace h:=hy52 u5 hu
  refine sq h ?_ ?_<;>intro h
  ·refine aq 1 ?_
   refine cq 7 [7] [I (ai (x4 - 1))] 50 ?_
   refine cZ ?_
   exact rf [1,2,3,7] [1] (ih _ _ h hr hn :)
  ·refine aq 1 ?_
   exact rf [1,2,7] [] (hn _ (ak h) :) (hk:=hK)
 have r5:∀r',y5=.inl r'→∀st,KP (s_1,du,k_3) r' st→Q st:=fun r' e st hq=>hr r' (hy51 r' e) st hq
 replace h:=hy5
 refine sp 12 h rfl ?_ ?_<;>intro h
 ·refine dy [1] [] (.hp 1 0 [] 5 0 2) rfl (an rfl rfl rfl) ?_
  refine dy [1] [] (.isl false (s_1.Duties.map ah)) rfl (aN rfl rfl) ?_
  refine dk 3 [17,16,15] [I (ai (x4 - 1)),I x4,.isl false (du.map I)] ?_
  obtain⟨e6,he6,h⟩:=bS h
  refine dy [] [] (.iptr (I e6) 0) rfl (aj rfl rfl rfl (bd rfl rfl rfl rfl he6)) ?_
  refine dy [] [] (I e6) rfl (aN rfl rfl) ?_
  obtain⟨e7,he7,h⟩:=bS h
  refine dy [] [] (.iptr (ah e7) 0) rfl (aj rfl rfl rfl (bd rfl rfl rfl rfl he7)) ?_
  refine dy [] [] (.iptr (ah e7) 2) rfl (an rfl rfl rfl) ?_
  refine dy [] [] (I e7.Due) rfl (aN rfl rfl) ?_
  refine dy [1] [] (.hp 1 0 [] 5 0 2) rfl (an rfl rfl rfl) ?_
  refine dy [1] [] (.isl false (s_1.Duties.map ah)) rfl (aN rfl rfl) ?_
  refine dk 1 [25] [I k_3] ?_
  obtain⟨e8,he8,h⟩:=bS h
  refine dy [] [] (.iptr (ah e8) 0) rfl (aj rfl rfl rfl (bd rfl rfl rfl rfl he8)) ?_
  refine dy [] [] (.iptr (ah e8) 2) rfl (an rfl rfl rfl) ?_
  refine dy [] [] (I e8.Due) rfl (aN rfl rfl) ?_
  refine dk 2 [30,29] [B (decide (e7.Due>e8.Due)),B (decide (e7.Due>e8.Due))] ?_
  refine de 338 rfl rfl ?_
  exact rf [1,2,3,7,30] [1] (j5 _ (ak h) :)
 ·refine dk 18 [30,29,28,27,26,25,24,23,22,21,20,19,18,17,16,15,14,13] [B false,.und,.und,.und,.und,.und,.und,.und,.und,.und,.und,.und,.und,.und,.und,.und,.und,.und] ?_
  refine de 338 rfl rfl ?_
  exact rf [1,2,3,7,30] [1] (j5 _ (ak h) :)
theorem VP (s_1:State)(du:List Int)(k_3:Int)(r:(List Int))(h:uO s_1 du k_3=some r):bA EG Tryz.f147 [false,false,false] 0 (EF (s_1,du,k_3)) (EH r):=by
 show Run _ _ (KP (s_1,du,k_3) r) [.code wC] _
 refine rI 45 [(0,ae s_1),(1,.isl false (du.map I)),(2,I k_3)] [] 1 ?_
 unfold uO at h
 refine ck 8 [3,8] [] [1] [] [.hp 1 0 [] 5 0 0,.isl false (du.map I)] [some ⟨0,5,[ae s_1]⟩] 49 (by kernel_rfl) ?_
 refine oq 65 (I (len du)) rfl (bu rfl rfl rfl (bI rfl)) ?_
 refine cq 4 [7] [I (len du)] 81 ?_
 obtain⟨y9,hy9,hy91,hy92⟩:=bJ h
 refine bN rfl ?_
 refine rf [1,2,3,7] [1] (Ng s_1 du k_3 rfl (len du) _ hy9 (fun r' e st hq=>by rw[hy91 r' e] at hq;exact hq) fun u9 hu=>?_)
 replace h:=hy92 u9 hu
 refine aq 1 ?_
 refine dK [0,0,0,6,15,0,32,127,0,0,768,2047,4095] rfl (by decide +kernel) ?_
 refine dq [] [] (.hs 1 0 [] 1 0 0) rfl (fa rfl (mu (f:=I) (xs:=[]) (z:=I (0)) (es:=[]) (ws:=[]) rfl rfl rfl (by decide) rfl (ed rfl) rfl)) ?_
 refine dk 2 [35,34] [I u9,.isl false (du.map I)] ?_
 obtain⟨s10,hs10,h⟩:=bS h
 refine dq [] [] (.isl false (s10.map I)) rfl (hY rfl rfl rfl rfl (xN rfl rfl (fun y=>(qQ y).1) rfl rfl hs10)) ?_
 obtain⟨a11,ha11,h⟩:=bS h
 refine dq [1] [1] (.hs 65 0 [] 1 0 (a11.map I).length) rfl (kf rfl rfl rfl rfl rfl (nT (path:=[]) (es0:=[]) (f:=I) (xs:=([]:List Int)) (ys:=s10) rfl rfl Mz rfl rfl rfl rfl rfl (by decide) qQ ha11 rfl rB)) ?_
 refine dk 1 [38] [I k_3] ?_
 refine dq [] [] (.hs 97 0 [] 1 0 1) rfl (fa rfl (mu (f:=I) (xs:=[]) (z:=I (0)) (es:=[I k_3]) (ws:=[I k_3]) rfl rfl rfl (by decide) rfl (ed rfl) rfl)) ?_
 obtain⟨a12,ha12,h⟩:=bS h
 refine dq [65,97] [65] (.hs 113 0 [] 1 0 (a12.map I).length) rfl (kf rfl rfl rfl rfl rfl (nT (path:=[]) (f:=I) (xs:=a11) (ys:=[k_3]) rfl rfl (uz rfl rfl rfl) rfl rfl rfl aW rfl (by decide) qQ ha12 rfl rB)) ?_ (GY rfl (F8 (path:=[]) (f:=I) (xs:=[k_3]) rfl rfl aW abF rfl))
 refine dk 2 [42,41] [I u9,.isl false (du.map I)] ?_
 obtain⟨s13,hs13,h⟩:=bS h
 refine dq [] [] (.isl false (s13.map I)) rfl (hY rfl rfl rfl rfl (xN rfl rfl (fun y=>(qQ y).1) rfl rfl hs13)) ?_
 obtain⟨a14,ha14,h⟩:=bS h
 refine dq [113] [113] (.hs 177 0 [] 1 0 (a14.map I).length) rfl (kf rfl rfl rfl rfl rfl (nT (path:=[]) (f:=I) (xs:=a12) (ys:=s13) rfl rfl Mz rfl rfl rfl aW rfl (by decide) qQ ha14 rfl rB)) ?_
 refine dk 1 [6] [.hs 177 0 [] 1 0 (a14.map I).length] ?_
 refine de 209 rfl rfl ?_
 obtain rfl:=Option.some.inj h
 exact co rfl ⟨_,fin (vs:=[.hs 177 0 [] 1 0 (a14.map I).length]) rfl (gp (gc rfl (dV rfl rfl)) eB) rfl (dj (dj (dj fw))),fp⟩
theorem Sw {G:Go.Ln.Ground}:aV Tryz.prog G 147 BH:=gT 3 0 bF ci Tryz.func147 (fun a r h=>VP a.1 a.2.1 a.2.2 r h)
noncomputable def EC:(Contract×State×Int×Int)→List V:=cA aX (cA bK (cA I (oA I)))
noncomputable def ED (r:(List Int)):V×List V:=(.usl 1 (r.map I),[])
noncomputable def BG:Ent:=bm [false,false,false,false] EC ED fun x=>BF x.1 x.2.1 x.2.2.1 x.2.2.2
theorem abb {c_1:Contract}{s_2:State}{dQ:Int}{eT:Int}{r}(h:BF c_1 s_2 dQ eT=some r):BG.F (EC (c_1,s_2,dQ,eT))=some (ED r):=aI (aU bn (aU cd (aU bG (aJ bG)))) h
noncomputable def Su:Code:=aG Tryz.f82
noncomputable abbrev lU:Code:=cL (cL (cR (cL (cR (cR Su)))))
noncomputable abbrev qM:Code:=cR (cR lU)
noncomputable abbrev tz:Code:=cR (cR (cL (cL (cR lU))))
noncomputable def nN:Env:=b7 Tryz.prog [(147,BH)]
noncomputable def KO (x:Contract×State×Int×Int)(r:(List Int)):St→Prop:=QF nN Tryz.f82 [false,false,false,false] (EC x) (ED r)
theorem Nf (c_1:Contract)(s_2:State)(dQ:Int)(eT:Int):cj nN 0 (KO (c_1,s_2,dQ,eT)) lU 0 (kI c_1 s_2 dQ eT) (fun u=>(sT 62 [(9,.hs 1 0 [] 1 0 (u.map I).length)] [⟨0,1,u.map I⟩] 2)) fun x5=>(sT 62 [(2,I dQ),(3,I eT),(4,.hp 1 0 [] 2 0 0),(5,.hp 2 0 [] 5 0 0),(9,.hs 3 0 [] 1 0 (x5.2.map I).length),(10,I x5.1)] [⟨0,2,[aa c_1]⟩,⟨0,5,[ae s_2]⟩,⟨0,1,x5.2.map I⟩] 4):=ef (zn c_1 s_2 dQ eT) fun {Q K} hK self ih x5 y h hr hn=>by
 unfold li at h
 refine cq 6 [13,15] [I x5.1,.isl false (s_2.Duties.map ah)] 52 ?_
 refine oq 68 (I (len s_2.Duties)) rfl (bu rfl rfl rfl (bI rfl)) ?_
 refine cq 2 [17] [B (decide (x5.1<(len s_2.Duties)))] 84 ?_
 refine sq h ?_ ?_<;>intro h
 ·refine aq 1 ?_
  refine aq 3 ?_
  refine dK [0,1,0,4,0,28,60,124,255,511,0,2047] rfl (by decide +kernel) ?_
  refine dq [1] [] (.hp 1 0 [] 2 0 1) rfl (an rfl rfl rfl) ?_
  refine dq [1] [] (.isl false (c_1.Clauses.map au)) rfl (aN rfl rfl) ?_
  refine dq [2] [] (.hp 2 0 [] 5 0 2) rfl (an rfl rfl rfl) ?_
  refine dq [2] [] (.isl false (s_2.Duties.map ah)) rfl (aN rfl rfl) ?_
  refine dk 1 [24] [I x5.1] ?_
  obtain⟨e6,he6,h⟩:=bS h
  refine dq [] [] (.iptr (ah e6) 0) rfl (aj rfl rfl rfl (bd rfl rfl rfl rfl he6)) ?_
  refine dq [] [] (.iptr (ah e6) 0) rfl (an rfl rfl rfl) ?_
  refine dq [] [] (I e6.Clause) rfl (aN rfl rfl) ?_
  obtain⟨e7,he7,h⟩:=bS h
  refine dq [] [] (.iptr (az e7) 0) rfl (aj rfl rfl rfl (bd rfl rfl rfl rfl he7)) ?_
  refine dq [] [] (az e7) rfl (aN rfl rfl) ?_
  refine dq [] [] (.hp 244 0 [] 12 0 0) rfl (WP (z:=.agg [str ([]),I (0),I (0),str ([]),I (0),I (0),I (0),str ([]),I (0),.isl true [],I (0),str ([])]) rfl rfl rfl) ?_
  refine dz [244] [244] rfl (fQ rfl rfl (eY (path:=[]) (pl:=true) (e':=az e7) (es2':=[az e7]) rfl (dJ rfl) rfl rfl rfl aW rfl rfl rfl rfl rfl ey 0 rfl)) ?_
  refine de 276 rfl rfl ?_
  refine cq 5 [31,32] [.isl false (s_2.Duties.map ah),I x5.1] 324 ?_
  obtain⟨e8,he8,h⟩:=bS h
  refine oq 340 (.iptr (ah e8) 0) rfl (aj rfl rfl rfl (bd rfl rfl rfl rfl he8)) ?_
  refine cq 4 [37] [B (e8.Status==1)] 404 ?_
  obtain⟨u9,hu9,h⟩:=lJ h
  have j9:Run nN 0 Q (.code tz::.blk 1::.code qM::.lp lU::.blk 0::K) (sT 62 [(2,I dQ),(3,I eT),(4,.hp 1 0 [] 2 0 0),(5,.hp 2 0 [] 5 0 0),(9,.hs 3 0 [] 1 0 (x5.2.map I).length),(10,I x5.1),(56,B u9)] [⟨0,2,[aa c_1]⟩,⟨0,5,[ae s_2]⟩,⟨0,1,x5.2.map I⟩] 4):=by
   obtain⟨y10,hy10,hy101,hy102⟩:=bL h
   have j10:∀u10,y10=.inr u10→Run nN 0 Q (.blk 1::.code qM::.lp lU::.blk 0::K) (sT 62 [(2,I dQ),(3,I eT),(4,.hp 1 0 [] 2 0 0),(5,.hp 2 0 [] 5 0 0),(9,.hs 3 0 [] 1 0 (u10.map I).length),(10,I x5.1)] [⟨0,2,[aa c_1]⟩,⟨0,5,[ae s_2]⟩,⟨0,1,u10.map I⟩] 4):=by
    intro u10 hu
    replace h:=hy102 u10 hu
    refine cq 6 [10] [I (ai (x5.1+1))] 52 ?_
    refine cZ ?_
    exact rf [2,3,4,5,9,10] [1,2,3] (ih _ _ h hr hn :)
   have r10:∀r',y10=.inl r'→∀st,KO (c_1,s_2,dQ,eT) r' st→Q st:=fun r' e st hq=>hr r' (hy101 r' e) st hq
   replace h:=hy10
   refine sq h ?_ ?_<;>intro h
   ·refine cq 4 [57,58,59] [ae s_2,.hs 3 0 [] 1 0 (x5.2.map I).length,I x5.1] 52 ?_
    obtain⟨r11,hr11,h⟩:=bS h
    refine oq 68 (.hs 52 0 [] 1 0 (r11.map I).length) rfl (cm rfl rfl (cU rfl rfl rfl (bC (cg rfl) (bC (sh1 rfl rfl (fy (f:=I) (g:=I) (xs:=x5.2) rfl rfl (cG rR))) (bC (cg rfl) dM))) (abc hr11) (.inl (by simp[cW,dP,str,Cn (f:=I) Tt])) ew rfl rfl rfl)) ?_
    refine cq 2 [9] [.hs 52 0 [] 1 0 (r11.map I).length] 84 ?_
    exact rf [2,3,4,5,9,10] [1,2,52] (j10 _ (ak h) :)
   ·refine aq 1 ?_
    exact rf [2,3,4,5,9,10] [1,2,3] (j10 _ (ak h) :)
  replace h:=hu9
  clear hu9
  refine sp 37 h rfl ?_ ?_<;>intro h
  ·refine cq 3 [40] [B (decide (dQ<0))] 452 ?_
   obtain⟨u12,hu12,h⟩:=lJ h
   have j12:Run nN 0 Q (.code tz::.blk 1::.code qM::.lp lU::.blk 0::K) (sT 62 [(2,I dQ),(3,I eT),(4,.hp 1 0 [] 2 0 0),(5,.hp 2 0 [] 5 0 0),(9,.hs 3 0 [] 1 0 (x5.2.map I).length),(10,I x5.1),(56,B u12)] [⟨0,2,[aa c_1]⟩,⟨0,5,[ae s_2]⟩,⟨0,1,x5.2.map I⟩] 4):=by
    subst h
    exact rf [2,3,4,5,9,10,56] [1,2,3] (j9 :)
   replace h:=hu12
   clear hu12
   refine sp 40 h rfl ?_ ?_<;>intro h
   ·refine cq 10 [47,50] [B true,B (decide (eT<0))] 612 ?_
    obtain⟨u13,hu13,h⟩:=lJ h
    have j13:Run nN 0 Q (.code tz::.blk 1::.code qM::.lp lU::.blk 0::K) (sT 62 [(2,I dQ),(3,I eT),(4,.hp 1 0 [] 2 0 0),(5,.hp 2 0 [] 5 0 0),(9,.hs 3 0 [] 1 0 (x5.2.map I).length),(10,I x5.1),(56,B u13)] [⟨0,2,[aa c_1]⟩,⟨0,5,[ae s_2]⟩,⟨0,1,x5.2.map I⟩] 4):=by
     subst h
     exact rf [2,3,4,5,9,10,56] [1,2,3] (j12 :)
    replace h:=hu13
    clear hu13
    refine sp 50 h rfl ?_ ?_<;>intro h
    ·refine cq 7 [56] [B true] 708 ?_
     subst h
     exact rf [2,3,4,5,9,10,56] [1,2,3] (j13 :)
    ·refine cq 7 [56] [B (e7.Other==eT)] 708 ?_
     subst h
     exact rf [2,3,4,5,9,10,56] [1,2,3] (j13 :)
   ·refine cq 7 [47] [B (e7.Party==dQ)] 564 ?_
    obtain⟨u14,hu14,h⟩:=lJ h
    have j14:Run nN 0 Q (.code tz::.blk 1::.code qM::.lp lU::.blk 0::K) (sT 62 [(2,I dQ),(3,I eT),(4,.hp 1 0 [] 2 0 0),(5,.hp 2 0 [] 5 0 0),(9,.hs 3 0 [] 1 0 (x5.2.map I).length),(10,I x5.1),(56,B u14)] [⟨0,2,[aa c_1]⟩,⟨0,5,[ae s_2]⟩,⟨0,1,x5.2.map I⟩] 4):=by
     subst h
     exact rf [2,3,4,5,9,10,56] [1,2,3] (j12 :)
    replace h:=hu14
    clear hu14
    refine sp 47 h rfl ?_ ?_<;>intro h
    ·refine cq 3 [50] [B (decide (eT<0))] 612 ?_
     obtain⟨u15,hu15,h⟩:=lJ h
     have j15:Run nN 0 Q (.code tz::.blk 1::.code qM::.lp lU::.blk 0::K) (sT 62 [(2,I dQ),(3,I eT),(4,.hp 1 0 [] 2 0 0),(5,.hp 2 0 [] 5 0 0),(9,.hs 3 0 [] 1 0 (x5.2.map I).length),(10,I x5.1),(56,B u15)] [⟨0,2,[aa c_1]⟩,⟨0,5,[ae s_2]⟩,⟨0,1,x5.2.map I⟩] 4):=by
      subst h
      exact rf [2,3,4,5,9,10,56] [1,2,3] (j14 :)
     replace h:=hu15
     clear hu15
     refine sp 50 h rfl ?_ ?_<;>intro h
     ·refine cq 7 [56] [B true] 708 ?_
      subst h
      exact rf [2,3,4,5,9,10,56] [1,2,3] (j15 :)
     ·refine cq 7 [56] [B (e7.Other==eT)] 708 ?_
      subst h
      exact rf [2,3,4,5,9,10,56] [1,2,3] (j15 :)
    ·refine cq 10 [56] [B false] 708 ?_
     subst h
     exact rf [2,3,4,5,9,10,56] [1,2,3] (j14 :)
  ·refine cq 20 [56] [B false] 708 ?_
   subst h
   exact rf [2,3,4,5,9,10,56] [1,2,3] (j9 :)
 ·refine aq 1 ?_
  exact rf [9] [3] (hn _ (ak h) :) (hk:=hK)
theorem VO (c_1:Contract)(s_2:State)(dQ:Int)(eT:Int)(r:(List Int))(h:BF c_1 s_2 dQ eT=some r):bA nN Tryz.f82 [false,false,false,false] 0 (EC (c_1,s_2,dQ,eT)) (ED r):=by
 show Run _ _ (KO (c_1,s_2,dQ,eT) r) [.code Su] _
 refine rI 62 [(0,aa c_1),(1,ae s_2),(2,I dQ),(3,I eT)] [] 1 ?_
 unfold BF at h
 refine ck 8 [4,5] [] [1,17] [] [.hp 1 0 [] 2 0 0,.hp 17 0 [] 5 0 0] [some ⟨0,2,[aa c_1]⟩,some ⟨0,5,[ae s_2]⟩] 49 (by kernel_rfl) ?_
 refine oq 65 (.hs 49 0 [] 1 0 0) rfl (fa rfl (mu (f:=I) (xs:=[]) (z:=I (0)) (es:=[]) (ws:=[]) rfl rfl rfl (by decide) rfl (ed rfl) rfl)) ?_
 refine cq 8 [9,10] [.hs 49 0 [] 1 0 0,I (0)] 97 ?_
 obtain⟨y16,hy16,hy161,hy162⟩:=bJ h
 refine bN rfl ?_
 refine rf [2,3,4,5,9,10] [1,17,49] (Nf c_1 s_2 dQ eT rfl (0,[]) _ hy16 (fun r' e st hq=>by rw[hy161 r' e] at hq;exact hq) fun u16 hu=>?_)
 replace h:=hy162 u16 hu
 refine cq 5 [8] [.hs 1 0 [] 1 0 (u16.map I).length] 34 ?_
 obtain rfl:=Option.some.inj h
 exact co rfl ⟨_,fin (vs:=[.hs 1 0 [] 1 0 (u16.map I).length]) rfl (gp (gc rfl (dV rfl rfl)) eB) rfl (dj (dj (dj (dj fw)))),fp⟩
theorem Sv {G:Go.Ln.Ground}:aV Tryz.prog G 82 BG:=gT 4 0 (aM Sw bF) ci Tryz.func82 (fun a r h=>VO a.1 a.2.1 a.2.2.1 a.2.2.2 r h)
noncomputable def EA:(Contract×State)→List V:=cA aX (oA bK)
noncomputable def EB (r:Int×Bool):V×List V:=(.tup [I r.1,B r.2],[])
noncomputable def BE:Ent:=bm [false,false] EA EB fun x=>BD x.1 x.2
theorem Sr {c_1:Contract}{s_2:State}{r}(h:BD c_1 s_2=some r):BE.F (EA (c_1,s_2))=some (EB r):=aI (aU bn (aJ cd)) h
noncomputable def aba:Code:=aG Tryz.f25
noncomputable def Sq:Env:=b7 Tryz.prog [(81,B8),(82,BG)]
noncomputable def aa9 (x:Contract×State)(r:Int×Bool):St→Prop:=QF Sq Tryz.f25 [false,false] (EA x) (EB r)
theorem VN (c_1:Contract)(s_2:State)(r:Int×Bool)(h:BD c_1 s_2=some r):bA Sq Tryz.f25 [false,false] 0 (EA (c_1,s_2)) (EB r):=by
 show Run _ _ (aa9 (c_1,s_2) r) [.code aba] _
 refine rI 25 [(0,aa c_1),(1,ae s_2)] [] 1 ?_
 unfold BD at h
 refine ck 12 [2,3,7,8] [] [1,17] [] [.hp 1 0 [] 2 0 0,.hp 17 0 [] 5 0 0,aa c_1,ae s_2] [some ⟨0,2,[aa c_1]⟩,some ⟨0,5,[ae s_2]⟩] 97 (by kernel_rfl) ?_
 obtain⟨r3,hr3,h⟩:=bS h
 refine oq 113 (B r3) rfl (cP (abv hr3)) ?_
 refine cq 2 [10] [B (!r3)] 129 ?_
 refine sq h ?_ ?_<;>intro h
 ·refine cq 5 [4,5] [I (0),B false] 161 ?_
  obtain rfl:=Option.some.inj h
  exact rP [I (0),B false]
 ·refine aq 1 ?_
  refine cq 4 [11,12] [aa c_1,ae s_2] 161 ?_
  obtain⟨r4,hr4,h⟩:=bS h
  refine oq 177 (.hs 161 0 [] 1 0 (r4.map I).length) rfl (cP (abb hr4)) ?_
  refine cq 6 [6,14] [.hs 161 0 [] 1 0 (r4.map I).length,.hs 161 0 [] 1 0 (r4.map I).length] 209 ?_
  refine oq 225 (I (len r4)) rfl (bu rfl rfl rfl (qv (f:=I) (xs:=r4) rfl rfl)) ?_
  refine cq 2 [16] [B ((len r4)==0)] 241 ?_
  refine sq h ?_ ?_<;>intro h
  ·refine cq 5 [4,5] [I (-1),B true] 273 ?_
   obtain rfl:=Option.some.inj h
   exact rP [I (-1),B true]
  ·refine aq 1 ?_
   refine aq 1 ?_
   refine dK [0,1,0,4,12,31,63,127,255,511] rfl (by decide +kernel) ?_
   refine dq [17] [] (.hp 17 0 [] 5 0 2) rfl (an rfl rfl rfl) ?_
   refine dq [17] [] (.isl false (s_2.Duties.map ah)) rfl (aN rfl rfl) ?_
   refine dk 1 [19] [.hs 161 0 [] 1 0 (r4.map I).length] ?_
   obtain⟨e5,he5,h⟩:=bS h
   refine dq [161] [] (.hp 161 0 [] 1 (0+Int.toNat (0)) 0) rfl (aj rfl rfl rfl (dD (f:=I) (xs:=r4) rfl rfl rfl he5)) ?_
   refine dq [161] [] (I e5) rfl (aN rfl (fH (path:=[]) rfl rfl rfl aW (cS (f:=I) (xs:=r4) he5) rfl rfl rfl)) ?_
   obtain⟨e6,he6,h⟩:=bS h
   refine dq [] [] (.iptr (ah e6) 0) rfl (aj rfl rfl rfl (bd rfl rfl rfl rfl he6)) ?_
   refine dq [] [] (.iptr (ah e6) 2) rfl (an rfl rfl rfl) ?_
   refine dq [] [] (I e6.Due) rfl (aN rfl rfl) ?_
   refine dk 2 [5,4] [B true,I e6.Due] ?_
   refine de 401 rfl rfl ?_
   obtain rfl:=Option.some.inj h
   exact rP [I e6.Due,B true]
theorem Ss {G:Go.Ln.Ground}:aV Tryz.prog G 25 BE:=gT 2 0 (aM Td (aM Sv bF)) ci Tryz.func25 (fun a r h=>VN a.1 a.2 r h)
noncomputable def CP:(Int×Int×Int)→List V:=cA I (cA I (oA I))
noncomputable def CQ (r:Bool):V×List V:=(B r,[])
noncomputable def jf:Ent:=bm [false,false,false] CP CQ fun x=>je x.1 x.2.1 x.2.2
theorem iR {n_1:Int}{oe:Int}{lF:Int}{r}(h:je n_1 oe lF=some r):jf.F (CP (n_1,oe,lF))=some (CQ r):=aI (aU bG (aU bG (aJ bG))) h
noncomputable def Qp:Code:=aG Tryz.f110
noncomputable def Kd:Env:=b7 Tryz.prog []
noncomputable def Qo (x:Int×Int×Int)(r:Bool):St→Prop:=QF Kd Tryz.f110 [false,false,false] (CP x) (CQ r)
theorem US (n_1:Int)(oe:Int)(lF:Int)(r:Bool)(h:je n_1 oe lF=some r):bA Kd Tryz.f110 [false,false,false] 0 (CP (n_1,oe,lF)) (CQ r):=by
 show Run _ _ (Qo (n_1,oe,lF) r) [.code Qp] _
 refine rI 15 [(0,I n_1),(1,I oe),(2,I lF)] [] 1 ?_
 unfold je at h
 refine cq 10 [10] [B (decide (n_1≥oe))] 81 ?_
 obtain⟨u4,hu4,h⟩:=lJ h
 have j4:Run Kd 0 (Qo (n_1,oe,lF) r) (.code (cR (cR Qp))::[]) (sT 15 [(6,B u4)] [] 1):=by
  obtain rfl:=Option.some.inj h
  exact rP [B u4]
 replace h:=hu4
 clear hu4
 refine sp 10 h rfl ?_ ?_<;>intro h
 ·refine cq 6 [6] [B (decide (n_1≤lF))] 161 ?_
  subst h
  exact rf [6] [] (j4 :)
 ·refine cq 6 [6] [B false] 161 ?_
  subst h
  exact rf [6] [] (j4 :)
theorem jP {G:Go.Ln.Ground}:aV Tryz.prog G 110 jf:=gT 3 0 bF ci Tryz.func110 (fun a r h=>US a.1 a.2.1 a.2.2 r h)
noncomputable def kv:Ent:=⟨[false,false],vm (pw str) (pw (V.int .u8)) fun s c=>some (I ((Lib.countByte s c.toNat.toUInt8:Nat):Int),[])⟩
theorem H1 {s:ac}{c r:Int}(h:xR s c=some r):kv.F [str s,.int .u8 c]=some (I r,[]):=by
 cases h
 simp only[kv,vm,Ge bQ,Ge UJ,Option.bind_some]
theorem H2:Extern.findNext Tryz.f267=none:=by kernel_rfl
theorem H3:Extern.find Tryz.f267=some Extern.BytealgCount.count:=by kernel_rfl
theorem yF {G:Go.Ln.Ground}:aV Tryz.prog G 267 kv:=Oj (g:=fun s c=>((Lib.countByte s c.toNat.toUInt8:Nat):Int)) Tryz.func267 rfl (by decide) H2 H3 fun s c w=>Lib.run_countString s c w
noncomputable def ip:Ent:=⟨[false,false],vm (pw str) (pw (V.int .u8)) fun s c=>some (I (Lib.indexByte s c.toNat.toUInt8),[])⟩
theorem xS {s:ac}{c r:Int}(h:rD s c=some r):ip.F [str s,.int .u8 c]=some (I r,[]):=by
 cases h
 simp only[ip,vm,Ge bQ,Ge UJ,Option.bind_some]
theorem xT:Extern.findNext Tryz.f301=none:=by kernel_rfl
theorem xU:Extern.find Tryz.f301=some Extern.BytealgIndexByte.indexByte:=by kernel_rfl
theorem uB {G:Go.Ln.Ground}:aV Tryz.prog G 301 ip:=Oj (g:=fun s c=>Lib.indexByte s c.toNat.toUInt8) Tryz.func301 rfl (by decide) xT xU fun s c w=>Lib.run_indexByteString s c w
noncomputable def CT:(ac×Int)→List V:=cA str (oA (V.int .u8))
noncomputable def CU (r:Int):V×List V:=(I r,[])
noncomputable def Ar:Ent:=bm [false,false] CT CU fun x=>Kh x.1 x.2
theorem ZQ {s_1:ac}{c_2:Int}{r}(h:Kh s_1 c_2=some r):Ar.F (CT (s_1,c_2))=some (CU r):=aI (aU bQ (aJ (MD (k:=.u8)))) h
noncomputable def ZS:Code:=aG Tryz.f288
noncomputable def Qs:Env:=b7 Tryz.prog [(301,ip)]
noncomputable def ZR (x:ac×Int)(r:Int):St→Prop:=QF Qs Tryz.f288 [false,false] (CT x) (CU r)
theorem UU (s_1:ac)(c_2:Int)(r:Int)(h:Kh s_1 c_2=some r):bA Qs Tryz.f288 [false,false] 0 (CT (s_1,c_2)) (CU r):=by
 show Run _ _ (ZR (s_1,c_2) r) [.code ZS] _
 refine rI 8 [(0,str s_1),(1,.int .u8 c_2)] [] 1 ?_
 unfold Kh at h
 refine cq 8 [5,6] [str s_1,.int .u8 c_2] 49 ?_
 obtain⟨r3,hr3,h⟩:=bS h
 refine oq 65 (I r3) rfl (cP (xS hr3)) ?_
 refine cq 2 [4] [I r3] 81 ?_
 obtain rfl:=Option.some.inj h
 exact rP [I r3]
theorem Qt {G:Go.Ln.Ground}:aV Tryz.prog G 288 Ar:=gT 2 0 (aM uB bF) ci Tryz.func288 (fun a r h=>UU a.1 a.2 r h)
noncomputable def CR:(ac×ac)→List V:=cA str (oA str)
noncomputable def CS (r:Int):V×List V:=(I r,[])
noncomputable def Aq:Ent:=bm [false,false] CR CS fun x=>Ke x.1 x.2
theorem ZP {s_1:ac}{bg:ac}{r}(h:Ke s_1 bg=some r):Aq.F (CR (s_1,bg))=some (CS r):=aI (aU bQ (aJ bQ)) h
noncomputable def Kg:Code:=aG Tryz.f268
noncomputable def Kf:Env:=b7 Tryz.prog [(288,Ar)]
noncomputable def Qq (x:ac×ac)(r:Int):St→Prop:=QF Kf Tryz.f268 [false,false] (CR x) (CS r)
theorem UT (s_1:ac)(bg:ac)(r:Int)(h:Ke s_1 bg=some r):bA Kf Tryz.f268 [false,false] 0 (CR (s_1,bg)) (CS r):=by
 show Run _ _ (Qq (s_1,bg) r) [.code Kg] _
 refine rI 143 [(0,str s_1),(1,str bg)] [] 1 ?_
 unfold Ke at h
 refine cq 17 [5,19] [I (len bg),B ((len bg)==0)] 113 ?_
 obtain⟨u3,hu3,h⟩:=lJ h
 have j3:Run Kf 0 (Qq (s_1,bg) r) (.code (cR (cL (cL (cR (cR Kg)))))::.blk 0::.code (cR (cR (cR Kg)))::[]) (sT 143 [(0,str s_1),(1,str bg),(5,I (len bg)),(16,B u3)] [] 1):=by
  refine sq h ?_ ?_<;>intro h
  ·refine cq 4 [4] [I (0)] 17 ?_
   obtain rfl:=Option.some.inj h
   exact rP [I (0)]
  ·refine cq 6 [24] [B ((len bg)==1)] 49 ?_
   refine sq h ?_ ?_<;>intro h
   ·refine cq 4 [27,28] [str s_1,str bg] 81 ?_
    obtain⟨c4,hc4,h⟩:=bS h
    refine oq 97 (.int .u8 (c4.toNat:Int)) rfl (nC rfl rfl (rZ rfl rfl hc4)) ?_
    obtain⟨r5,hr5,h⟩:=bS h
    refine oq 113 (I r5) rfl (cP (ZQ hr5)) ?_
    refine cq 2 [4] [I r5] 129 ?_
    obtain rfl:=Option.some.inj h
    exact rP [I r5]
   ·refine cq 8 [31] [B (decide ((len bg)≥(len s_1)))] 129 ?_
    refine sq h ?_ ?_<;>intro h
    ·refine cq 4 [4] [I (-1)] 145 ?_
     obtain rfl:=Option.some.inj h
     exact rP [I (-1)]
    ·cases h
 replace h:=hu3
 clear hu3
 refine sp 19 h rfl ?_ ?_<;>intro h
 ·refine cq 6 [16] [B true] 193 ?_
  subst h
  exact rf [0,1,5,16] [] (j3 :)
 ·refine cq 6 [16] [B (bg==s_1)] 193 ?_
  subst h
  exact rf [0,1,5,16] [] (j3 :)
theorem Qr {G:Go.Ln.Ground}:aV Tryz.prog G 268 Aq:=gT 2 0 (aM Qt bF) ci Tryz.func268 (fun a r h=>UT a.1 a.2 r h)
noncomputable def FG:(ac×ac)→List V:=cA str (oA str)
noncomputable def FH (r:Int):V×List V:=(I r,[])
noncomputable def va:Ent:=bm [false,false] FG FH fun x=>Hm x.1 x.2
theorem Ti {s_1:ac}{bg:ac}{r}(h:Hm s_1 bg=some r):va.F (FG (s_1,bg))=some (FH r):=aI (aU bQ (aJ bQ)) h
noncomputable def aby:Code:=aG Tryz.f248
noncomputable def Th:Env:=b7 Tryz.prog [(268,Aq)]
noncomputable def abx (x:ac×ac)(r:Int):St→Prop:=QF Th Tryz.f248 [false,false] (FG x) (FH r)
theorem Wh (s_1:ac)(bg:ac)(r:Int)(h:Hm s_1 bg=some r):bA Th Tryz.f248 [false,false] 0 (FG (s_1,bg)) (FH r):=by
 show Run _ _ (abx (s_1,bg) r) [.code aby] _
 refine rI 8 [(0,str s_1),(1,str bg)] [] 1 ?_
 unfold Hm at h
 refine cq 8 [5,6] [str s_1,str bg] 49 ?_
 obtain⟨r3,hr3,h⟩:=bS h
 refine oq 65 (I r3) rfl (cP (ZP hr3)) ?_
 refine cq 2 [4] [I r3] 81 ?_
 obtain rfl:=Option.some.inj h
 exact rP [I r3]
theorem Ic {G:Go.Ln.Ground}:aV Tryz.prog G 248 va:=gT 2 0 (aM Qr bF) ci Tryz.func248 (fun a r h=>Wh a.1 a.2 r h)
noncomputable def FE:(ac×ac)→List V:=cA str (oA str)
noncomputable def FF (r:Int):V×List V:=(I r,[])
noncomputable def B9:Ent:=bm [false,false] FE FF fun x=>K8 x.1 x.2
theorem abw {s_1:ac}{bg:ac}{r}(h:K8 s_1 bg=some r):B9.F (FE (s_1,bg))=some (FF r):=aI (aU bQ (aJ bQ)) h
noncomputable def Tf:Code:=aG Tryz.f247
noncomputable def K9:Env:=b7 Tryz.prog [(267,kv),(248,va)]
noncomputable def Te (x:ac×ac)(r:Int):St→Prop:=QF K9 Tryz.f247 [false,false] (FE x) (FF r)
theorem Nz (s_1:ac)(bg:ac):cj K9 0 (Te (s_1,bg)) (cL (cL (cR (cR (cR (cR Tf)))))) 0 (N4 s_1 bg) (fun u=>(sT 34 [] [] 1)) fun x5=>(sT 34 [(0,str x5.1),(1,str bg),(5,I x5.2)] [] 1):=ef (Ny s_1 bg) fun {Q K} hK self ih x5 y h hr hn=>by
 unfold rN at h
 refine cq 5 [20,21] [str x5.1,str bg] 33 ?_
 obtain⟨r6,hr6,h⟩:=bS h
 refine oq 49 (I r6) rfl (cP (Ti hr6)) ?_
 refine cq 8 [6,24] [I r6,B (r6==(-1))] 97 ?_
 refine sq h ?_ ?_<;>intro h
 ·refine cq 5 [4] [I x5.2] 129 ?_
  exact co rfl (hr _ (ak h) _ (qp [I x5.2]))
 ·refine aq 1 ?_
  refine cq 12 [5,28,32] [I (ai (x5.2+1)),str x5.1,I (ai (r6+(len bg)))] 225 ?_
  obtain⟨s7,hs7,h⟩:=bS h
  refine oq 241 (str s7) rfl (hY rfl rfl rfl rfl (Mv rfl rfl rfl hs7)) ?_
  refine cq 3 [0] [str s7] 257 ?_
  refine cZ ?_
  exact rf [0,1,5] [] (ih _ _ h hr hn :)
theorem Wg (s_1:ac)(bg:ac)(r:Int)(h:K8 s_1 bg=some r):bA K9 Tryz.f247 [false,false] 0 (FE (s_1,bg)) (FF r):=by
 show Run _ _ (Te (s_1,bg) r) [.code Tf] _
 refine rI 34 [(0,str s_1),(1,str bg)] [] 1 ?_
 unfold K8 at h
 refine cq 11 [9] [B ((len bg)==0)] 65 ?_
 refine sq h ?_ ?_<;>intro h
 ·cases h
 ·refine aq 1 ?_
  refine cq 7 [15] [B ((len bg)==1)] 113 ?_
  refine sq h ?_ ?_<;>intro h
  ·refine cq 4 [16,17] [str s_1,str bg] 145 ?_
   obtain⟨c3,hc3,h⟩:=bS h
   refine oq 161 (.int .u8 (c3.toNat:Int)) rfl (nC rfl rfl (rZ rfl rfl hc3)) ?_
   obtain⟨r4,hr4,h⟩:=bS h
   refine oq 177 (I r4) rfl (cP (H1 hr4)) ?_
   refine cq 2 [4] [I r4] 193 ?_
   obtain rfl:=Option.some.inj h
   exact rP [I r4]
  ·refine aq 1 ?_
   refine cq 5 [5] [I (0)] 129 ?_
   obtain⟨y8,hy8,hy81,hy82⟩:=bJ h
   refine bN rfl ?_
   refine rf [0,1,5] [] (Nz s_1 bg rfl (s_1,0) _ hy8 (fun r' e st hq=>by rw[hy81 r' e] at hq;exact hq) fun u8 hu=>?_)
   replace h:=hy82 u8 hu
   cases h
theorem Tg {G:Go.Ln.Ground}:aV Tryz.prog G 247 B9:=gT 2 0 (aM yF (aM Ic bF)) ci Tryz.func247 (fun a r h=>Wg a.1 a.2 r h)
noncomputable def FK:(ac×ac×Int×Int)→List V:=cA str (cA str (cA I (oA I)))
noncomputable def FM (r:(List ac)):V×List V:=(.usl 1 (r.map str),[])
noncomputable def Cc:Ent:=bm [false,false,false,false] FK FM fun x=>La x.1 x.2.1 x.2.2.1 x.2.2.2
theorem abC {s_1:ac}{dS:ac}{dx:Int}{n_4:Int}{r}(h:La s_1 dS dx n_4=some r):Cc.F (FK (s_1,dS,dx,n_4))=some (FM r):=aI (aU bQ (aU bQ (aU bG (aJ bG)))) h
noncomputable def Lb:Code:=aG Tryz.f209
noncomputable abbrev Yv:Code:=cL (cL (cL (cR (cR (cR (cR (cR (cR (cR (cR Lb))))))))))
noncomputable def FL:Env:=b7 Tryz.prog [(248,va),(247,B9)]
noncomputable def wZ (x:ac×ac×Int×Int)(r:(List ac)):St→Prop:=QF FL Tryz.f209 [false,false,false,false] (FK x) (FM r)
theorem NA (s_1:ac)(dS:ac)(dx:Int)(n_4:Int)(u5:Int):cj FL 0 (wZ (s_1,dS,dx,n_4)) Yv 0 (yd s_1 dS dx n_4 u5) (fun u=>(sT 66 [(0,str u.1),(9,.hs 1 0 [] 1 0 (u.2.2.map str).length),(10,I u.2.1)] [⟨0,1,u.2.2.map str⟩] 2)) fun x7=>(sT 66 [(0,str x7.1),(1,str dS),(2,I dx),(3,I (ai ((if (ai ((len s_1)+1))<u5 then (ai ((len s_1)+1)) else u5) - 1))),(9,.hs 1 0 [] 1 0 (x7.2.2.map str).length),(10,I x7.2.1)] [⟨0,1,x7.2.2.map str⟩] 2):=ef (zI s_1 dS dx n_4 u5) fun {Q K} hK self ih x7 y h hr hn=>by
 unfold rO at h
 refine cq 7 [36] [B (decide (x7.2.1<(ai ((if (ai ((len s_1)+1))<u5 then (ai ((len s_1)+1)) else u5) - 1))))] 50 ?_
 refine sq h ?_ ?_<;>intro h
 ·refine aq 1 ?_
  refine cq 5 [37,38] [str x7.1,str dS] 82 ?_
  obtain⟨r8,hr8,h⟩:=bS h
  refine oq 98 (I r8) rfl (cP (Ti hr8)) ?_
  refine cq 8 [11,41] [I r8,B (decide (r8<0))] 146 ?_
  refine sq h ?_ ?_<;>intro h
  ·refine aq 1 ?_
   exact rf [0,9,10] [1] (hn _ (ak h) :) (hk:=hK)
  ·refine aq 1 ?_
   refine cq 8 [42,43,44,47] [.hs 1 0 [] 1 0 (x7.2.2.map str).length,I x7.2.1,str x7.1,I (ai (r8+dx))] 242 ?_
   obtain⟨s9,hs9,h⟩:=bS h
   refine oq 258 (str s9) rfl (hY rfl rfl rfl rfl (Mv rfl rfl rfl hs9)) ?_
   obtain⟨e10,he10,h⟩:=bS h
   refine oq 274 (.hp 1 0 [] 1 (0+Int.toNat x7.2.1) 0) rfl (aj rfl rfl rfl (dD (f:=str) (xs:=x7.2.2) rfl rfl rfl he10)) ?_
   refine o0 290 rfl rfl (fQ rfl rfl (eY (path:=[]) (pl:=true) (e':=str s9) (es2':=(cX x7.2.2 x7.2.1 s9).map str) rfl (dJ rfl) rfl rfl rfl aW (cS (f:=str) (xs:=x7.2.2) he10) rfl rfl rfl (iw (f:=str) (xs:=x7.2.2) (y:=s9)) ey 0 rfl)) ?_
   try rw[←gI (f:=str) (xs:=x7.2.2) (i:=x7.2.1) (z:=s9)]
   refine cq 8 [50,54] [str x7.1,I (ai (r8+(len dS)))] 370 ?_
   obtain⟨s11,hs11,h⟩:=bS h
   refine oq 386 (str s11) rfl (hY rfl rfl rfl rfl (Mv rfl rfl rfl hs11)) ?_
   refine cq 8 [0,10] [str s11,I (ai (x7.2.1+1))] 450 ?_
   refine cZ ?_
   exact rf [0,1,2,3,9,10] [1] (ih _ _ h hr hn :)
 ·refine aq 1 ?_
  exact rf [0,9,10] [1] (hn _ (ak h) :) (hk:=hK)
theorem Wj (s_1:ac)(dS:ac)(dx:Int)(n_4:Int)(r:(List ac))(h:La s_1 dS dx n_4=some r):bA FL Tryz.f209 [false,false,false,false] 0 (FK (s_1,dS,dx,n_4)) (FM r):=by
 show Run _ _ (wZ (s_1,dS,dx,n_4) r) [.code Lb] _
 refine rI 66 [(0,str s_1),(1,str dS),(2,I dx),(3,I n_4)] [] 1 ?_
 unfold La at h
 refine cq 10 [13] [B (n_4==0)] 49 ?_
 refine sq h ?_ ?_<;>intro h
 ·refine cq 4 [8] [.isl true []] 65 ?_
  refine Zx 8 0 1 81 (.hs 65 0 [] 1 0 0) rfl rfl rfl rfl rfl ?_
  obtain rfl:=Option.some.inj h
  exact co rfl ⟨_,fin (vs:=[.hs 65 0 [] 1 0 0]) rfl (gp (gc rfl (dV (k:=0) (es:=[]) rfl rfl)) eB) rfl (dj (dj (dj (dj fw)))),fp⟩
 ·refine aq 1 ?_
  refine cq 6 [15] [B (dS==([]:ac))] 81 ?_
  refine sq h ?_ ?_<;>intro h
  ·cases h
  ·refine aq 1 ?_
   refine cq 6 [20] [B (decide (n_4<0))] 113 ?_
   obtain⟨y5,hy5,hy51,hy52⟩:=bJ h
   have j5:∀u5,y5=.inr u5→Run FL 0 (wZ (s_1,dS,dx,n_4) r) (.code (cR (cR (cR (cR Lb))))::[]) (sT 66 [(0,str s_1),(1,str dS),(2,I dx),(3,I u5)] [] 1):=by
    intro u5 hu
    replace h:=hy52 u5 hu
    refine cq 12 [3,30] [I (if (ai ((len s_1)+1))<u5 then (ai ((len s_1)+1)) else u5),I (if (ai ((len s_1)+1))<u5 then (ai ((len s_1)+1)) else u5)] 113 ?_
    obtain⟨m6,hm6,h⟩:=bS h
    refine oq 129 (.hs 113 0 [] 1 0 (m6.map str).length) rfl (kN rfl rfl (Gt (f:=str) rfl rfl rfl (by decide) hm6 rfl)) ?_
    refine cq 14 [3,9,10] [I (ai ((if (ai ((len s_1)+1))<u5 then (ai ((len s_1)+1)) else u5) - 1)),.hs 113 0 [] 1 0 (m6.map str).length,I (0)] 209 ?_
    obtain⟨y12,hy12,hy121,hy122⟩:=bJ h
    refine bN rfl ?_
    refine rf [0,1,2,3,9,10] [113] (NA s_1 dS dx n_4 u5 rfl (s_1,0,m6) _ hy12 (fun r' e st hq=>by rw[hy121 r' e] at hq;exact hq) fun u12 hu=>?_)
    replace h:=hy122 u12 hu
    refine cq 5 [58,59,60] [.hs 1 0 [] 1 0 (u12.2.2.map str).length,I u12.2.1,str u12.1] 50 ?_
    obtain⟨e13,he13,h⟩:=bS h
    refine oq 66 (.hp 1 0 [] 1 (0+Int.toNat u12.2.1) 0) rfl (aj rfl rfl rfl (dD (f:=str) (xs:=u12.2.2) rfl rfl rfl he13)) ?_
    refine o0 82 rfl rfl (fQ rfl rfl (eY (path:=[]) (pl:=true) (e':=str u12.1) (es2':=(cX u12.2.2 u12.2.1 u12.1).map str) rfl (dJ rfl) rfl rfl rfl aW (cS (f:=str) (xs:=u12.2.2) he13) rfl rfl rfl (iw (f:=str) (xs:=u12.2.2) (y:=u12.1)) ey 0 rfl)) ?_
    try rw[←gI (f:=str) (xs:=u12.2.2) (i:=u12.2.1) (z:=u12.1)]
    refine cq 6 [62,64] [.hs 1 0 [] 1 0 ((cX u12.2.2 u12.2.1 u12.1).map str).length,I (ai (u12.2.1+1))] 130 ?_
    obtain⟨s14,hs14,h⟩:=bS h
    refine oq 146 (.hs 1 0 [] 1 (0+Int.toNat (0)) (Int.toNat (ai (u12.2.1+1)) - Int.toNat (0))) rfl (hY rfl rfl rfl rfl (uu (f:=str) (xs:=(cX u12.2.2 u12.2.1 u12.1)) rfl rfl rfl rfl rfl hs14)) ?_
    refine cq 2 [8] [.hs 1 0 [] 1 (0+Int.toNat (0)) (Int.toNat (ai (u12.2.1+1)) - Int.toNat (0))] 162 ?_
    obtain⟨p15,hp15,h⟩:=bS h
    obtain rfl:=Option.some.inj h
    exact co rfl ⟨_,fin (vs:=[.hs 1 0 [] 1 (0+Int.toNat (0)) (Int.toNat (ai (u12.2.1+1)) - Int.toNat (0))]) rfl (gp (gc rfl (Tx (path:=[]) (f:=str) (xs:=(cX u12.2.2 u12.2.1 u12.1)) rfl rfl aW hp15 rfl rB)) eB) rfl (dj (dj (dj (dj fw)))),fp⟩
   have r5:∀r',y5=.inl r'→∀st,wZ (s_1,dS,dx,n_4) r' st→(wZ (s_1,dS,dx,n_4) r) st:=fun r' e st hq=>by rw[hy51 r' e] at hq;exact hq
   replace h:=hy5
   refine sq h ?_ ?_<;>intro h
   ·refine cq 3 [21,22] [str s_1,str dS] 145 ?_
    obtain⟨r16,hr16,h⟩:=bS h
    refine oq 161 (I r16) rfl (cP (abw hr16)) ?_
    refine cq 3 [3] [I (ai (r16+1))] 193 ?_
    exact rf [0,1,2,3] [] (j5 _ (ak h) :)
   ·refine aq 1 ?_
    exact rf [0,1,2,3] [] (j5 _ (ak h) :)
theorem Tl {G:Go.Ln.Ground}:aV Tryz.prog G 209 Cc:=gT 4 0 (aM Ic (aM Tg bF)) ci Tryz.func209 (fun a r h=>Wj a.1 a.2.1 a.2.2.1 a.2.2.2 r h)
noncomputable def FI:(ac×ac)→List V:=cA str (oA str)
noncomputable def FJ (r:(List ac)):V×List V:=(.usl 1 (r.map str),[])
noncomputable def Cb:Ent:=bm [false,false] FI FJ fun x=>Ca x.1 x.2
theorem abz {s_1:ac}{dS:ac}{r}(h:Ca s_1 dS=some r):Cb.F (FI (s_1,dS))=some (FJ r):=aI (aU bQ (aJ bQ)) h
noncomputable def abB:Code:=aG Tryz.f160
noncomputable def Tj:Env:=b7 Tryz.prog [(209,Cc)]
noncomputable def abA (x:ac×ac)(r:(List ac)):St→Prop:=QF Tj Tryz.f160 [false,false] (FI x) (FJ r)
theorem Wi (s_1:ac)(dS:ac)(r:(List ac))(h:Ca s_1 dS=some r):bA Tj Tryz.f160 [false,false] 0 (FI (s_1,dS)) (FJ r):=by
 show Run _ _ (abA (s_1,dS) r) [.code abB] _
 refine rI 8 [(0,str s_1),(1,str dS)] [] 1 ?_
 unfold Ca at h
 refine cq 8 [5,6] [str s_1,str dS] 49 ?_
 obtain⟨r3,hr3,h⟩:=bS h
 refine oq 65 (.hs 49 0 [] 1 0 (r3.map str).length) rfl (cP (abC hr3)) ?_
 refine cq 2 [4] [.hs 49 0 [] 1 0 (r3.map str).length] 81 ?_
 obtain rfl:=Option.some.inj h
 exact co rfl ⟨_,fin (vs:=[.hs 49 0 [] 1 0 (r3.map str).length]) rfl (gp (gc rfl (dV rfl rfl)) eB) rfl (dj (dj fw)),fp⟩
theorem Tk {G:Go.Ln.Ground}:aV Tryz.prog G 160 Cb:=gT 2 0 (aM Tl bF) ci Tryz.func160 (fun a r h=>Wi a.1 a.2 r h)
noncomputable def Ed:((List ac)×ac)→List V:=cA (fY str) (oA str)
noncomputable def Ee (r:Int):V×List V:=(I r,[])
noncomputable def Bu:Ent:=bm [false,false] Ed Ee fun x=>Bt x.1 x.2
theorem aa3 {s_1:List ac}{v_2:ac}{r}(h:Bt s_1 v_2=some r):Bu.F (Ed (s_1,v_2))=some (Ee r):=aI (aU (ce bQ) (aJ bQ)) h
noncomputable def Sd:Code:=aG Tryz.f208
noncomputable def KG:Env:=b7 Tryz.prog []
noncomputable def Sc (x:(List ac)×ac)(r:Int):St→Prop:=QF KG Tryz.f208 [false,false] (Ed x) (Ee r)
theorem M1 (s_1:List ac)(v_2:ac):cj KG 0 (Sc (s_1,v_2)) (cL (cL (cR (cL (cR Sd))))) 0 (qK s_1 v_2) (fun u=>(sT 19 [] [] 1)) fun x3=>(sT 19 [(0,.isl false (s_1.map str)),(1,str v_2),(7,I (len s_1)),(8,I x3)] [] 1):=ef (za s_1 v_2) fun {Q K} hK self ih x3 y h hr hn=>by
 unfold lg at h
 refine cq 5 [9] [B (decide (x3<(len s_1)))] 17 ?_
 refine sq h ?_ ?_<;>intro h
 ·refine aq 1 ?_
  refine cq 12 [5,11,12,13] [I x3,str v_2,.isl false (s_1.map str),I x3] 97 ?_
  obtain⟨e4,he4,h⟩:=bS h
  refine oq 113 (.iptr (str e4) 0) rfl (aj rfl rfl rfl (bd rfl rfl rfl rfl he4)) ?_
  refine cq 3 [16] [B (v_2==e4)] 145 ?_
  refine sq h ?_ ?_<;>intro h
  ·refine cq 5 [4] [I x3] 177 ?_
   exact co rfl (hr _ (ak h) _ (qp [I x3]))
  ·refine aq 1 ?_
   refine cq 5 [8] [I (ai (x3+1))] 177 ?_
   refine cZ ?_
   exact rf [0,1,7,8] [] (ih _ _ h hr hn :)
 ·refine aq 1 ?_
  exact rf [] [] (hn _ (ak h) :) (hk:=hK)
theorem VE (s_1:List ac)(v_2:ac)(r:Int)(h:Bt s_1 v_2=some r):bA KG Tryz.f208 [false,false] 0 (Ed (s_1,v_2)) (Ee r):=by
 show Run _ _ (Sc (s_1,v_2) r) [.code Sd] _
 refine rI 19 [(0,.isl false (s_1.map str)),(1,str v_2)] [] 1 ?_
 unfold Bt at h
 refine cq 8 [6] [.isl false (s_1.map str)] 33 ?_
 refine oq 49 (I (len s_1)) rfl (bu rfl rfl rfl (bI rfl)) ?_
 refine cq 3 [8] [I (0)] 65 ?_
 obtain⟨y5,hy5,hy51,hy52⟩:=bJ h
 refine bN rfl ?_
 refine rf [0,1,7,8] [] (M1 s_1 v_2 rfl 0 _ hy5 (fun r' e st hq=>by rw[hy51 r' e] at hq;exact hq) fun u5 hu=>?_)
 replace h:=hy52 u5 hu
 refine cq 4 [4] [I (-1)] 17 ?_
 obtain rfl:=Option.some.inj h
 exact rP [I (-1)]
theorem Se {G:Go.Ln.Ground}:aV Tryz.prog G 208 Bu:=gT 2 0 bF ci Tryz.func208 (fun a r h=>VE a.1 a.2 r h)
noncomputable def D1:((List ac)×ac)→List V:=cA (fY str) (oA str)
noncomputable def D2 (r:Bool):V×List V:=(B r,[])
noncomputable def qS:Ent:=bm [false,false] D1 D2 fun x=>qR x.1 x.2
theorem KA {s_1:List ac}{v_2:ac}{r}(h:qR s_1 v_2=some r):qS.F (D1 (s_1,v_2))=some (D2 r):=aI (aU (ce bQ) (aJ bQ)) h
noncomputable def aaX:Code:=aG Tryz.f159
noncomputable def RT:Env:=b7 Tryz.prog [(208,Bu)]
noncomputable def aaW (x:(List ac)×ac)(r:Bool):St→Prop:=QF RT Tryz.f159 [false,false] (D1 x) (D2 r)
theorem Vy (s_1:List ac)(v_2:ac)(r:Bool)(h:qR s_1 v_2=some r):bA RT Tryz.f159 [false,false] 0 (D1 (s_1,v_2)) (D2 r):=by
 show Run _ _ (aaW (s_1,v_2) r) [.code aaX] _
 refine rI 9 [(0,.isl false (s_1.map str)),(1,str v_2)] [] 1 ?_
 unfold qR at h
 refine cq 8 [5,6] [.isl false (s_1.map str),str v_2] 49 ?_
 obtain⟨r3,hr3,h⟩:=bS h
 refine oq 65 (I r3) rfl (cP (aa3 hr3)) ?_
 refine cq 3 [4] [B (decide (r3≥0))] 97 ?_
 obtain rfl:=Option.some.inj h
 exact rP [B (decide (r3≥0))]
theorem wv {G:Go.Ln.Ground}:aV Tryz.prog G 159 qS:=gT 2 0 (aM Se bF) ci Tryz.func159 (fun a r h=>Vy a.1 a.2 r h)
noncomputable def Jj:ac→List V:=oA str
noncomputable def Jk (r:Bool):V×List V:=(B r,[])
noncomputable def qP:Ent:=bm [false] Jj Jk fun x=>vO x
theorem Fr {s_1:ac}{r}(h:vO s_1=some r):qP.F (Jj s_1)=some (Jk r):=aI (aJ bQ) h
noncomputable def yb:Code:=aG Tryz.f99
noncomputable abbrev rc:Code:=cL (cL (cR (cL (cR (cR yb)))))
noncomputable abbrev Fs:Code:=cR (cR (cR rc))
noncomputable abbrev Ft:Code:=cR (cR (cR (cL (cL (cR (cR rc))))))
noncomputable def ql:Env:=b7 Tryz.prog [(110,jf),(160,Cb),(159,qS)]
noncomputable def rM (x:ac)(r:Bool):St→Prop:=QF ql Tryz.f99 [false] (Jj x) (Jk r)
theorem Pb (s_1:ac):cj ql 0 (rM s_1) rc 0 (wY s_1) (fun u=>(sT 46 [(0,str s_1)] [] 1)) fun x4=>(sT 46 [(0,str s_1),(20,I (len s_1)),(21,I x4)] [] 1):=ef (Fu s_1) fun {Q K} hK self ih x4 y h hr hn=>by
 unfold oU at h
 refine cq 5 [22] [B (decide (x4<(len s_1)))] 17 ?_
 refine sq h ?_ ?_<;>intro h
 ·refine aq 1 ?_
  refine cq 11 [24,25] [str s_1,I x4] 81 ?_
  obtain⟨c5,hc5,h⟩:=bS h
  refine oq 97 (.int .u8 (c5.toNat:Int)) rfl (nC rfl rfl (rZ rfl rfl hc5)) ?_
  refine cq 7 [4,29] [.int .u8 (c5.toNat:Int),B (decide ((c5.toNat:Int)<97))] 161 ?_
  obtain⟨u6,hu6,h⟩:=lJ h
  have j6:Run ql 0 Q (.code Ft::.blk 1::.code Fs::.lp rc::.blk 0::K) (sT 46 [(0,str s_1),(20,I (len s_1)),(21,I x4),(40,B u6)] [] 1):=by
   refine sq h ?_ ?_<;>intro h
   ·refine cq 4 [2] [B false] 17 ?_
    exact co rfl (hr _ (ak h) _ (qp [B false]))
   ·refine aq 1 ?_
    refine cq 5 [21] [I (ai (x4+1))] 33 ?_
    refine cZ ?_
    exact rf [0,20,21] [] (ih _ _ h hr hn :)
  replace h:=hu6
  clear hu6
  refine sp 29 h rfl ?_ ?_<;>intro h
  ·refine cq 7 [33,36] [B true,B (decide ((c5.toNat:Int)<48))] 273 ?_
   obtain⟨u7,hu7,h⟩:=lJ h
   have j7:Run ql 0 Q (.code Ft::.blk 1::.code Fs::.lp rc::.blk 0::K) (sT 46 [(0,str s_1),(20,I (len s_1)),(21,I x4),(40,B u7)] [] 1):=by
    subst h
    exact rf [0,20,21,40] [] (j6 :)
   replace h:=hu7
   clear hu7
   refine sp 36 h rfl ?_ ?_<;>intro h
   ·refine cq 5 [40] [B true] 337 ?_
    subst h
    exact rf [0,20,21,40] [] (j7 :)
   ·refine cq 5 [40] [B (decide ((c5.toNat:Int)>57))] 337 ?_
    subst h
    exact rf [0,20,21,40] [] (j7 :)
  ·refine cq 4 [33] [B (decide ((c5.toNat:Int)>122))] 225 ?_
   obtain⟨u8,hu8,h⟩:=lJ h
   have j8:Run ql 0 Q (.code Ft::.blk 1::.code Fs::.lp rc::.blk 0::K) (sT 46 [(0,str s_1),(20,I (len s_1)),(21,I x4),(40,B u8)] [] 1):=by
    subst h
    exact rf [0,20,21,40] [] (j6 :)
   replace h:=hu8
   clear hu8
   refine sp 33 h rfl ?_ ?_<;>intro h
   ·refine cq 3 [36] [B (decide ((c5.toNat:Int)<48))] 273 ?_
    obtain⟨u9,hu9,h⟩:=lJ h
    have j9:Run ql 0 Q (.code Ft::.blk 1::.code Fs::.lp rc::.blk 0::K) (sT 46 [(0,str s_1),(20,I (len s_1)),(21,I x4),(40,B u9)] [] 1):=by
     subst h
     exact rf [0,20,21,40] [] (j8 :)
    replace h:=hu9
    clear hu9
    refine sp 36 h rfl ?_ ?_<;>intro h
    ·refine cq 5 [40] [B true] 337 ?_
     subst h
     exact rf [0,20,21,40] [] (j9 :)
    ·refine cq 5 [40] [B (decide ((c5.toNat:Int)>57))] 337 ?_
     subst h
     exact rf [0,20,21,40] [] (j9 :)
   ·refine cq 8 [40] [B false] 337 ?_
    subst h
    exact rf [0,20,21,40] [] (j8 :)
 ·refine aq 1 ?_
  exact rf [0] [] (hn _ (ak h) :) (hk:=hK)
theorem Yu (s_1:ac)(r:Bool)(h:vO s_1=some r):bA ql Tryz.f99 [false] 0 (Jj s_1) (Jk r):=by
 show Run _ _ (rM s_1 r) [.code yb] _
 refine rI 46 [(0,str s_1)] [] 1 ?_
 unfold vO at h
 refine cq 9 [6] [I (len s_1)] 49 ?_
 obtain⟨r2,hr2,h⟩:=bS h
 refine oq 65 (B r2) rfl (cP (iR hr2)) ?_
 refine cq 2 [9] [B (!r2)] 97 ?_
 obtain⟨y3,hy3,hy31,hy32⟩:=bJ h
 have j3:∀u3,y3=.inr u3→Run ql 0 (rM s_1 r) (.code (cR (cL (cR yb)))::.code (cR (cR yb))::[]) (sT 46 [(0,str s_1),(18,B u3)] [] 1):=by
  intro u3 hu
  replace h:=hy32 u3 hu
  refine sq h ?_ ?_<;>intro h
  ·refine cq 4 [2] [B false] 17 ?_
   obtain rfl:=Option.some.inj h
   exact rP [B false]
  ·refine aq 1 ?_
   refine cq 8 [20,21] [I (len s_1),I (0)] 49 ?_
   obtain⟨y10,hy10,hy101,hy102⟩:=bJ h
   refine bN rfl ?_
   refine rf [0,20,21] [] (Pb s_1 rfl 0 _ hy10 (fun r' e st hq=>by rw[hy101 r' e] at hq;exact hq) fun u10 hu=>?_)
   replace h:=hy102 u10 hu
   refine aq 2 ?_
   obtain⟨r11,hr11,h⟩:=bS h
   refine oq 17 (.hs 1 0 [] 1 0 (r11.map str).length) rfl (cP (abz hr11)) ?_
   refine cq 1 [43] [str s_1] 33 ?_
   obtain⟨r12,hr12,h⟩:=bS h
   refine oq 49 (B r12) rfl (cm rfl rfl (cU rfl rfl rfl (bC (sh1 rfl rfl (fy (f:=str) (g:=str) (xs:=r11) rfl rfl (cG fZ))) (bC (cg rfl) dM)) (KA hr12) (.inl rfl) ew rfl rfl rfl)) ?_
   refine cq 3 [2] [B (!r12)] 81 ?_
   obtain rfl:=Option.some.inj h
   exact rP [B (!r12)]
 have r3:∀r',y3=.inl r'→∀st,rM s_1 r' st→(rM s_1 r) st:=fun r' e st hq=>by rw[hy31 r' e] at hq;exact hq
 replace h:=hy3
 refine sp 9 h rfl ?_ ?_<;>intro h
 ·refine cq 10 [18] [B true] 241 ?_
  exact rf [0,18] [] (j3 _ (ak h) :)
 ·refine cq 1 [10] [str s_1] 113 ?_
  obtain⟨c13,hc13,h⟩:=bS h
  refine oy 129 (.int .u8 (c13.toNat:Int)) rfl (nC rfl rfl (rZ rfl rfl hc13)) ?_
  refine cq 3 [14] [B (decide ((c13.toNat:Int)<97))] 177 ?_
  obtain⟨y14,hy14,hy141,hy142⟩:=bL h
  have j14:∀u14,y14=.inr u14→Run ql 0 (rM s_1 r) (.code (cR (cL (cR yb)))::.code (cR (cR yb))::[]) (sT 46 [(0,str s_1),(18,B u14)] [] 1):=by
   intro u14 hu
   replace h:=hy142 u14 hu
   exact rf [0,18] [] (j3 _ (ak h) :)
  have r14:∀r',y14=.inl r'→∀st,rM s_1 r' st→(rM s_1 r) st:=fun r' e st hq=>r3 r' (hy141 r' e) st hq
  replace h:=hy14
  refine sp 14 h rfl ?_ ?_<;>intro h
  ·refine cq 5 [18] [B true] 241 ?_
   exact rf [0,18] [] (j14 _ (ak h) :)
  ·refine cq 1 [15] [str s_1] 193 ?_
   obtain⟨c15,hc15,h⟩:=bS h
   refine oy 209 (.int .u8 (c15.toNat:Int)) rfl (nC rfl rfl (rZ rfl rfl hc15)) ?_
   refine cq 3 [18] [B (decide ((c15.toNat:Int)>122))] 241 ?_
   exact rf [0,18] [] (j14 _ (ak h) :)
theorem uY {G:Go.Ln.Ground}:aV Tryz.prog G 99 qP:=gT 1 0 (aM jP (aM Tk (aM wv bF))) ci Tryz.func99 (fun a r h=>Yu a r h)
noncomputable def Jt:(List ac)→List V:=oA (fY str)
noncomputable def Jv (r:Bool):V×List V:=(B r,[])
noncomputable def Hr:Ent:=bm [false] Jt Jv fun x=>Ld x
theorem acu {aw:List ac}{r}(h:Ld aw=some r):Hr.F (Jt aw)=some (Jv r):=aI (aJ (ce bQ)) h
noncomputable def FR:Code:=aG Tryz.f135
noncomputable def Ju:Env:=b7 Tryz.prog [(99,qP),(159,qS),(110,jf)]
noncomputable def Ph (x:(List ac))(r:Bool):St→Prop:=QF Ju Tryz.f135 [false] (Jt x) (Jv r)
theorem Pi (aw:List ac):cj Ju 0 (Ph aw) (cL (cL (cR (cL (cR FR))))) 0 (xa aw) (fun u=>(sT 26 [(0,.isl false (aw.map str))] [] 1)) fun x2=>(sT 26 [(0,.isl false (aw.map str)),(5,.isl false (aw.map str)),(6,I (len aw)),(7,I x2)] [] 1):=ef (FS aw) fun {Q K} hK self ih x2 y h hr hn=>by
 unfold mC at h
 refine cq 5 [8] [B (decide (x2<(len aw)))] 17 ?_
 refine sq h ?_ ?_<;>intro h
 ·refine aq 1 ?_
  refine cq 5 [9] [I x2] 33 ?_
  obtain⟨e3,he3,h⟩:=bS h
  refine oq 49 (.iptr (str e3) 0) rfl (aj rfl rfl rfl (bd rfl rfl rfl rfl he3)) ?_
  refine cq 7 [3,4,12] [I x2,str e3,str e3] 113 ?_
  obtain⟨r4,hr4,h⟩:=bS h
  refine oq 129 (B r4) rfl (cP (Fr hr4)) ?_
  refine cq 2 [15] [B (!r4)] 161 ?_
  obtain⟨y5,hy5,hy51,hy52⟩:=bL h
  have j5:∀u5,y5=.inr u5→Run Ju 0 Q (.code (cR (cR (cL (cL (cR (cR (cL (cL (cR (cL (cR FR)))))))))))::.blk 1::.code (cR (cR (cR (cL (cL (cR (cL (cR FR))))))))::.lp (cL (cL (cR (cL (cR FR)))))::.blk 0::K) (sT 26 [(0,.isl false (aw.map str)),(5,.isl false (aw.map str)),(6,I (len aw)),(7,I x2),(21,B u5)] [] 1):=by
   intro u5 hu
   replace h:=hy52 u5 hu
   refine sq h ?_ ?_<;>intro h
   ·refine cq 4 [2] [B false] 17 ?_
    exact co rfl (hr _ (ak h) _ (qp [B false]))
   ·refine aq 1 ?_
    refine cq 5 [7] [I (ai (x2+1))] 33 ?_
    refine cZ ?_
    exact rf [0,5,6,7] [] (ih _ _ h hr hn :)
  have r5:∀r',y5=.inl r'→∀st,Ph aw r' st→Q st:=fun r' e st hq=>hr r' (hy51 r' e) st hq
  replace h:=hy5
  refine sp 15 h rfl ?_ ?_<;>intro h
  ·refine cq 7 [21] [B true] 257 ?_
   exact rf [0,5,6,7,21] [] (j5 _ (ak h) :)
  ·refine cq 2 [16,17] [.isl false (aw.map str),I x2] 193 ?_
   obtain⟨s6,hs6,h⟩:=bS h
   refine oy 209 (.isl false (s6.map str)) rfl (hY rfl rfl rfl rfl (xN rfl rfl (fun y=>(lP y).1) rfl rfl hs6)) ?_
   refine cq 1 [19] [str e3] 225 ?_
   obtain⟨r7,hr7,h⟩:=bS h
   refine oy 241 (B r7) rfl (cP (KA hr7)) ?_
   refine cq 2 [21] [B r7] 257 ?_
   exact rf [0,5,6,7,21] [] (j5 _ (ak h) :)
 ·refine aq 1 ?_
  exact rf [0] [] (hn _ (ak h) :) (hk:=hK)
theorem YB (aw:List ac)(r:Bool)(h:Ld aw=some r):bA Ju Tryz.f135 [false] 0 (Jt aw) (Jv r):=by
 show Run _ _ (Ph aw r) [.code FR] _
 refine rI 26 [(0,.isl false (aw.map str))] [] 1 ?_
 unfold Ld at h
 refine cq 8 [5] [.isl false (aw.map str)] 33 ?_
 refine oq 49 (I (len aw)) rfl (bu rfl rfl rfl (bI rfl)) ?_
 refine cq 3 [7] [I (0)] 65 ?_
 obtain⟨y8,hy8,hy81,hy82⟩:=bJ h
 refine bN rfl ?_
 refine rf [0,5,6,7] [] (Pi aw rfl 0 _ hy8 (fun r' e st hq=>by rw[hy81 r' e] at hq;exact hq) fun u8 hu=>?_)
 replace h:=hy82 u8 hu
 refine cq 3 [23] [.isl false (aw.map str)] 17 ?_
 refine oq 33 (I (len aw)) rfl (bu rfl rfl rfl (bI rfl)) ?_
 obtain⟨r9,hr9,h⟩:=bS h
 refine oq 49 (B r9) rfl (cP (iR hr9)) ?_
 refine cq 2 [2] [B r9] 65 ?_
 obtain rfl:=Option.some.inj h
 exact rP [B r9]
theorem Wp {G:Go.Ln.Ground}:aV Tryz.prog G 135 Hr:=gT 1 0 (aM uY (aM wv (aM jP bF))) ci Tryz.func135 (fun a r h=>YB a r h)
noncomputable def Jy:(Clause×ac)→List V:=cA au (oA (fun x:ac=>.iptr (str x) 0))
noncomputable def Jz (r:Bool):V×List V:=(B r,[])
noncomputable def Ht:Ent:=bm [false,false] Jy Jz fun x=>Tp x.1 x.2
theorem acx {x_1:Clause}{a_2:ac}{r}(h:Tp x_1 a_2=some r):Ht.F (Jy (x_1,a_2))=some (Jz r):=aI (aU dB (aJ (pb bQ))) h
noncomputable def acz:Code:=aG Tryz.f239
noncomputable def XS:Env:=b7 Tryz.prog []
noncomputable def acy (x:Clause×ac)(r:Bool):St→Prop:=QF XS Tryz.f239 [false,false] (Jy x) (Jz r)
theorem YD (x_1:Clause)(a_2:ac)(r:Bool)(h:Tp x_1 a_2=some r):bA XS Tryz.f239 [false,false] 0 (Jy (x_1,a_2)) (Jz r):=by
 show Run _ _ (acy (x_1,a_2) r) [.code acz] _
 refine rI 8 [(0,az x_1),(1,.iptr (str a_2) 0)] [] 1 ?_
 unfold Tp at h
 refine cq 13 [3] [B (x_1.Id==a_2)] 113 ?_
 obtain rfl:=Option.some.inj h
 exact rP [B (x_1.Id==a_2)]
theorem Wr {G:Go.Ln.Ground}:aV Tryz.prog G 239 Ht:=gT 2 0 bF ci Tryz.func239 (fun a r h=>YD a.1 a.2 r h)
noncomputable def D3:((List Clause)×ac)→List V:=cA (fY au) (oA (fun x:ac=>(.fn 239 [.iptr (str x) 0]:V)))
noncomputable def D4 (r:Int):V×List V:=(I r,[])
noncomputable def Bo:Ent:=bm [false,false] D3 D4 fun x=>Ha x.1 x.2
theorem aaY {s_1:List Clause}{f_2:ac}{r}(h:Ha s_1 f_2=some r):Bo.F (D3 (s_1,f_2))=some (D4 r):=aI (aU (ce dB) (aJ (jG bQ))) h
noncomputable def RV:Code:=aG Tryz.f162
noncomputable def KB:Env:=b7 Tryz.prog [(239,Ht)]
noncomputable def RU (x:(List Clause)×ac)(r:Int):St→Prop:=QF KB Tryz.f162 [false,false] (D3 x) (D4 r)
theorem MW (s_1:List Clause)(f_2:ac):cj KB 0 (RU (s_1,f_2)) (cL (cL (cR (cL (cR RV))))) 0 (th s_1 f_2) (fun u=>(sT 19 [] [] 1)) fun x3=>(sT 19 [(0,.isl false (s_1.map au)),(1,.fn 239 [.iptr (str f_2) 0]),(7,I (len s_1)),(8,I x3)] [] 1):=ef (yV s_1 f_2) fun {Q K} hK self ih x3 y h hr hn=>by
 unfold mX at h
 refine cq 5 [9] [B (decide (x3<(len s_1)))] 17 ?_
 refine sq h ?_ ?_<;>intro h
 ·refine aq 1 ?_
  refine cq 12 [5,11,12,13] [I x3,.fn 239 [.iptr (str f_2) 0],.isl false (s_1.map au),I x3] 97 ?_
  obtain⟨e4,he4,h⟩:=bS h
  refine oq 113 (.iptr (az e4) 0) rfl (aj rfl rfl rfl (bd rfl rfl rfl rfl he4)) ?_
  refine cq 1 [15] [az e4] 129 ?_
  obtain⟨r5,hr5,h⟩:=bS h
  refine oq 145 (B r5) rfl (cP (acx hr5)) ?_
  refine aq 1 ?_
  refine sq h ?_ ?_<;>intro h
  ·refine cq 5 [4] [I x3] 177 ?_
   exact co rfl (hr _ (ak h) _ (qp [I x3]))
  ·refine aq 1 ?_
   refine cq 5 [8] [I (ai (x3+1))] 177 ?_
   refine cZ ?_
   exact rf [0,1,7,8] [] (ih _ _ h hr hn :)
 ·refine aq 1 ?_
  exact rf [] [] (hn _ (ak h) :) (hk:=hK)
theorem Vz (s_1:List Clause)(f_2:ac)(r:Int)(h:Ha s_1 f_2=some r):bA KB Tryz.f162 [false,false] 0 (D3 (s_1,f_2)) (D4 r):=by
 show Run _ _ (RU (s_1,f_2) r) [.code RV] _
 refine rI 19 [(0,.isl false (s_1.map au)),(1,.fn 239 [.iptr (str f_2) 0])] [] 1 ?_
 unfold Ha at h
 refine cq 8 [6] [.isl false (s_1.map au)] 33 ?_
 refine oq 49 (I (len s_1)) rfl (bu rfl rfl rfl (bI rfl)) ?_
 refine cq 3 [8] [I (0)] 65 ?_
 obtain⟨y6,hy6,hy61,hy62⟩:=bJ h
 refine bN rfl ?_
 refine rf [0,1,7,8] [] (MW s_1 f_2 rfl 0 _ hy6 (fun r' e st hq=>by rw[hy61 r' e] at hq;exact hq) fun u6 hu=>?_)
 replace h:=hy62 u6 hu
 refine cq 4 [4] [I (-1)] 17 ?_
 obtain rfl:=Option.some.inj h
 exact rP [I (-1)]
theorem RX {G:Go.Ln.Ground}:aV Tryz.prog G 162 Bo:=gT 2 0 (aM Wr bF) ci Tryz.func162 (fun a r h=>Vz a.1 a.2 r h)
noncomputable def Jw:(Contract×ac)→List V:=cA aX (oA str)
noncomputable def Jx (r:Int):V×List V:=(I r,[])
noncomputable def Hs:Ent:=bm [false,false] Jw Jx fun x=>FT x.1 x.2
theorem XR {c_1:Contract}{fb:ac}{r}(h:FT c_1 fb=some r):Hs.F (Jw (c_1,fb))=some (Jx r):=aI (aU bn (aJ bQ)) h
noncomputable def acw:Code:=aG Tryz.f193
noncomputable def XQ:Env:=b7 Tryz.prog [(162,Bo)]
noncomputable def acv (x:Contract×ac)(r:Int):St→Prop:=QF XQ Tryz.f193 [false,false] (Jw x) (Jx r)
theorem YC (c_1:Contract)(fb:ac)(r:Int)(h:FT c_1 fb=some r):bA XQ Tryz.f193 [false,false] 0 (Jw (c_1,fb)) (Jx r):=by
 show Run _ _ (acv (c_1,fb) r) [.code acw] _
 refine rI 9 [(0,aa c_1),(1,str fb)] [] 1 ?_
 unfold FT at h
 refine ck 11 [6,7] [] [17] [] [.isl false (c_1.Clauses.map au),.fn 239 [.hp 17 0 [] 1 0 0]] [some ⟨0,1,[str fb]⟩] 97 (by kernel_rfl) ?_
 obtain⟨r3,hr3,h⟩:=bS h
 refine oq 113 (I r3) rfl (cm rfl rfl (cU rfl rfl rfl (bC (cg rfl) (bC (ow (dX (ut (path:=[]) rfl rfl aW rfl rfl) im)) dM)) (aaY hr3) (.inl rfl) ew rfl rfl rfl)) ?_
 refine cq 2 [4] [I r3] 129 ?_
 obtain rfl:=Option.some.inj h
 exact rP [I r3]
theorem Wq {G:Go.Ln.Ground}:aV Tryz.prog G 193 Hs:=gT 2 0 (aM RX bF) ci Tryz.func193 (fun a r h=>YC a.1 a.2 r h)
noncomputable def JL:Int→List V:=oA I
noncomputable def JM (r:Bool):V×List V:=(B r,[])
noncomputable def tT:Ent:=bm [false] JL JM fun x=>oD x
theorem vc {gP:Int}{r}(h:oD gP=some r):tT.F (JL gP)=some (JM r):=aI (aJ bG) h
noncomputable def acJ:Code:=aG Tryz.f68
noncomputable def XZ:Env:=b7 Tryz.prog [(110,jf)]
noncomputable def acI (x:Int)(r:Bool):St→Prop:=QF XZ Tryz.f68 [false] (JL x) (JM r)
theorem YL (gP:Int)(r:Bool)(h:oD gP=some r):bA XZ Tryz.f68 [false] 0 (JL gP) (JM r):=by
 show Run _ _ (acI gP r) [.code acJ] _
 refine rI 5 [(0,I gP)] [] 1 ?_
 unfold oD at h
 refine cq 7 [3] [I gP] 33 ?_
 obtain⟨r2,hr2,h⟩:=bS h
 refine oq 49 (B r2) rfl (cP (iR hr2)) ?_
 refine cq 2 [2] [B r2] 65 ?_
 obtain rfl:=Option.some.inj h
 exact rP [B r2]
theorem Cf {G:Go.Ln.Ground}:aV Tryz.prog G 68 tT:=gT 1 0 (aM jP bF) ci Tryz.func68 (fun a r h=>YL a r h)
noncomputable def FU:(Condition×Int)→List V:=cA bB (oA I)
noncomputable def FV (r:Int):V×List V:=(I r,[])
noncomputable def Ce (be:(Condition×Int)→Option Int):Ent:=bm [false,false] FU FV be
theorem Tr (be:(Condition×Int)→Option Int){x}{r}(h:be x=some r):(Ce be).F (FU x)=some (FV r):=aI (aU dt (aJ bG)) h
noncomputable def Hu:Ent:=Ce (aK mp)
theorem acA {c_1:Condition}{cE:Int}{r}(h:Tq c_1 cE=some r):Hu.F (FU (c_1,cE))=some (FV r):=Tr (aK mp) h
noncomputable def vb:Code:=aG Tryz.f240
noncomputable abbrev pI:Code:=cR (cR (cR (cR (cR vb))))
noncomputable abbrev rd:Code:=cR (cL (cR (cR (cR (cR vb)))))
noncomputable def mo (be:(Condition×Int)→Option Int):Env:=b7 Tryz.prog [(240,(Ce be)),(99,qP),(68,tT),(110,jf)]
noncomputable def fk (be:(Condition×Int)→Option Int)(x:Condition×Int)(r:Int):St→Prop:=QF (mo be) Tryz.f240 [false,false] (FU x) (FV r)
theorem Pj (be:(Condition×Int)→Option Int)(c_1:Condition)(cE:Int):cj (mo be) 0 (fk be (c_1,cE)) (cL (cL (cR (cL pI)))) 0 (mh be c_1 cE) (fun u=>(sT 78 [(1,I u)] [] 1)) fun x5=>(sT 78 [(1,I x5.1),(65,.isl false (c_1.Parts.map aE)),(66,I (len c_1.Parts)),(67,I x5.2)] [] 1):=ef (FW be c_1 cE) fun {Q K} hK self ih x5 y h hr hn=>by
 unfold lB at h
 refine cq 5 [68] [B (decide (x5.2<(len c_1.Parts)))] 17 ?_
 refine sq h ?_ ?_<;>intro h
 ·refine aq 1 ?_
  refine aq 4 ?_
  obtain⟨e6,he6,h⟩:=bS h
  refine oq 33 (.iptr (ao e6) 0) rfl (aj rfl rfl rfl (bd rfl rfl (dm e6) rfl he6)) ?_
  refine ck 2 [7,70] [] [49] [] [.hp 49 0 [] 4 0 0,ao e6] [some ⟨0,4,[.agg [I (0),str ([]),I (0),.isl true []]]⟩] 65 (by kernel_rfl) ?_
  refine fI 49 [.agg [I (0),str ([]),I (0),.usl 4 (([]).map aC)]] rfl rfl (aL (gU (aL (.refl _) (aL (.refl _) (aL (.refl _) (aL (.nil _) eL))))) eL) ?_
  refine ck 6 [71,72] [] [49] [] [ao e6,I x5.1] [some ⟨2,4,[ao e6]⟩] 113 (by kernel_rfl) ?_
  obtain⟨r7,hr7,h⟩:=bS h
  refine oq 129 (I r7) rfl (cm rfl rfl (cU rfl rfl rfl (bC (cg rfl) (bC (cg rfl) dM)) (Tr be hr7) (.inr rfl) ew rfl rfl rfl)) ?_
  refine cq 7 [1,75] [I r7,B (decide (r7<0))] 177 ?_
  refine sq h ?_ ?_<;>intro h
  ·refine cq 4 [4] [I (-1)] 193 ?_
   exact co rfl (hr _ (ak h) _ (qp [I (-1)]))
  ·refine aq 1 ?_
   refine cq 5 [67] [I (ai (x5.2+1))] 209 ?_
   refine cZ ?_
   exact rf [1,65,66,67] [] (ih _ _ h hr hn :)
 ·refine aq 1 ?_
  exact rf [1] [] (hn _ (ak h) :) (hk:=hK)
theorem YF (be:(Condition×Int)→Option Int)(c_1:Condition)(cE:Int)(r:Int)(h:yf be c_1 cE=some r):bA (mo be) Tryz.f240 [false,false] 0 (FU (c_1,cE)) (FV r):=by
 show Run _ _ (fk be (c_1,cE) r) [.code vb] _
 refine rI 78 [(0,ao c_1),(1,I cE)] [] 1 ?_
 unfold yf at h
 refine ck 13 [1,2] [] [1] [] [I (ai (cE+1)),.hp 1 0 [] 4 0 0] [some ⟨0,4,[ao c_1]⟩] 81 (by kernel_rfl) ?_
 refine oq 97 (.hs 81 0 [] 1 0 7) rfl (fa rfl (mu (f:=I) (xs:=[]) (z:=I (0)) (es:=[I (-1),I (0),I (0),I (0),I (1),I (2),I (2)]) (ws:=[I (-1),I (0),I (0),I (0),I (1),I (2),I (2)]) rfl rfl rfl (by decide) rfl (ed rfl) rfl)) ?_
 refine cq 4 [5] [.hs 81 0 [] 1 0 7] 113 ?_
 refine dK [0,1,3,7,15,31,63,127,255,511,1023,2047,511,511,8703,29183,61951,131071,262143] rfl (by decide +kernel) ?_
 refine dk 3 [13,12,11] [B (decide ((ai (cE+1))>15)),B (decide ((ai (cE+1))>15)),I (ai (cE+1))] ?_
 obtain⟨y3,hy3,hy31,hy32⟩:=bJ h
 have j3:∀u3,y3=.inr u3→Run (mo be) 0 (fk be (c_1,cE) r) (.code (cR (cL (cR (cR (cR vb)))))::.code (cR (cR (cR (cR vb))))::[]) (sT 78 [(1,I (ai (cE+1))),(2,.hp 1 0 [] 4 0 0),(29,B u3)] [⟨0,4,[ao c_1]⟩] 2):=by
  intro u3 hu
  replace h:=hy32 u3 hu
  refine sq h ?_ ?_<;>intro h
  ·refine cq 4 [4] [I (-1)] 18 ?_
   obtain rfl:=Option.some.inj h
   exact rP [I (-1)]
  ·refine aq 1 ?_
   refine cq 11 [37] [B (!((c_1.Op==2)==(!(c_1.Name==([]:ac)))))] 130 ?_
   obtain⟨y4,hy4,hy41,hy42⟩:=bJ h
   have j4:∀u4,y4=.inr u4→Run (mo be) 0 (fk be (c_1,cE) r) (.code rd::.code pI::[]) (sT 78 [(1,I (ai (cE+1))),(2,.hp 1 0 [] 4 0 0),(63,B u4)] [⟨0,4,[ao c_1]⟩] 2):=by
    intro u4 hu
    replace h:=hy42 u4 hu
    refine sq h ?_ ?_<;>intro h
    ·refine cq 4 [4] [I (-1)] 18 ?_
     obtain rfl:=Option.some.inj h
     exact rP [I (-1)]
    ·refine aq 1 ?_
     refine cq 5 [65] [.isl false (c_1.Parts.map aE)] 34 ?_
     refine oq 50 (I (len c_1.Parts)) rfl (bu rfl rfl rfl (bI rfl)) ?_
     refine cq 3 [67] [I (0)] 66 ?_
     obtain⟨y8,hy8,hy81,hy82⟩:=bJ h
     refine bN rfl ?_
     refine rf [1,65,66,67] [] (Pj be c_1 cE rfl ((ai (cE+1)),0) _ hy8 (fun r' e st hq=>by rw[hy81 r' e] at hq;exact hq) fun u8 hu=>?_)
     replace h:=hy82 u8 hu
     refine cq 5 [4] [I u8] 33 ?_
     obtain rfl:=Option.some.inj h
     exact rP [I u8]
   have r4:∀r',y4=.inl r'→∀st,fk be (c_1,cE) r' st→(fk be (c_1,cE) r) st:=fun r' e st hq=>by rw[hy41 r' e] at hq;exact hq
   replace h:=hy4
   refine sp 37 h rfl ?_ ?_<;>intro h
   ·refine cq 27 [63] [B true] 546 ?_
    exact rf [1,2,63] [1] (j4 _ (ak h) :)
   ·refine cq 4 [41] [B (c_1.Op==2)] 194 ?_
    obtain⟨y9,hy9,hy91,hy92⟩:=bL h
    have j9:∀u9,y9=.inr u9→Run (mo be) 0 (fk be (c_1,cE) r) (.code rd::.code pI::[]) (sT 78 [(1,I (ai (cE+1))),(2,.hp 1 0 [] 4 0 0),(63,B u9)] [⟨0,4,[ao c_1]⟩] 2):=by
     intro u9 hu
     replace h:=hy92 u9 hu
     exact rf [1,2,63] [1] (j4 _ (ak h) :)
    have r9:∀r',y9=.inl r'→∀st,fk be (c_1,cE) r' st→(fk be (c_1,cE) r) st:=fun r' e st hq=>r4 r' (hy91 r' e) st hq
    replace h:=hy9
    refine sp 41 h rfl ?_ ?_<;>intro h
    ·refine cq 2 [43] [str c_1.Name] 226 ?_
     obtain⟨r10,hr10,h⟩:=bS h
     refine oy 242 (B r10) rfl (cP (Fr hr10)) ?_
     refine cq 4 [48] [B (!r10)] 306 ?_
     obtain⟨y11,hy11,hy111,hy112⟩:=bL h
     have j11:∀u11,y11=.inr u11→Run (mo be) 0 (fk be (c_1,cE) r) (.code rd::.code pI::[]) (sT 78 [(1,I (ai (cE+1))),(2,.hp 1 0 [] 4 0 0),(63,B u11)] [⟨0,4,[ao c_1]⟩] 2):=by
      intro u11 hu
      replace h:=hy112 u11 hu
      exact rf [1,2,63] [1] (j9 _ (ak h) :)
     have r11:∀r',y11=.inl r'→∀st,fk be (c_1,cE) r' st→(fk be (c_1,cE) r) st:=fun r' e st hq=>r9 r' (hy111 r' e) st hq
     replace h:=hy11
     refine sp 48 h rfl ?_ ?_<;>intro h
     ·refine cq 16 [63] [B true] 546 ?_
      exact rf [1,2,63] [1] (j11 _ (ak h) :)
     ·refine cq 4 [52] [B (c_1.Op != 3)] 370 ?_
      obtain⟨y12,hy12,hy121,hy122⟩:=bL h
      have j12:∀u12,y12=.inr u12→Run (mo be) 0 (fk be (c_1,cE) r) (.code rd::.code pI::[]) (sT 78 [(1,I (ai (cE+1))),(2,.hp 1 0 [] 4 0 0),(63,B u12)] [⟨0,4,[ao c_1]⟩] 2):=by
       intro u12 hu
       replace h:=hy122 u12 hu
       exact rf [1,2,63] [1] (j11 _ (ak h) :)
      have r12:∀r',y12=.inl r'→∀st,fk be (c_1,cE) r' st→(fk be (c_1,cE) r) st:=fun r' e st hq=>r11 r' (hy121 r' e) st hq
      replace h:=hy12
      refine sp 52 h rfl ?_ ?_<;>intro h
      ·refine cq 6 [58] [B (c_1.Day != 0)] 466 ?_
       obtain⟨y13,hy13,hy131,hy132⟩:=bL h
       have j13:∀u13,y13=.inr u13→Run (mo be) 0 (fk be (c_1,cE) r) (.code rd::.code pI::[]) (sT 78 [(1,I (ai (cE+1))),(2,.hp 1 0 [] 4 0 0),(63,B u13)] [⟨0,4,[ao c_1]⟩] 2):=by
        intro u13 hu
        replace h:=hy132 u13 hu
        exact rf [1,2,63] [1] (j12 _ (ak h) :)
       have r13:∀r',y13=.inl r'→∀st,fk be (c_1,cE) r' st→(fk be (c_1,cE) r) st:=fun r' e st hq=>r12 r' (hy131 r' e) st hq
       replace h:=hy13
       refine sp 58 h rfl ?_ ?_<;>intro h
       ·refine cq 6 [63] [B true] 546 ?_
        exact rf [1,2,63] [1] (j13 _ (ak h) :)
       ·refine cq 2 [60] [I c_1.Day] 498 ?_
        obtain⟨r14,hr14,h⟩:=bS h
        refine oy 514 (B r14) rfl (cP (vc hr14)) ?_
        refine cq 3 [63] [B (!r14)] 546 ?_
        exact rf [1,2,63] [1] (j13 _ (ak h) :)
      ·refine cq 8 [58,60] [B false,I c_1.Day] 498 ?_
       obtain⟨r15,hr15,h⟩:=bS h
       refine oy 514 (B r15) rfl (cP (vc hr15)) ?_
       refine cq 3 [63] [B (!r15)] 546 ?_
       exact rf [1,2,63] [1] (j12 _ (ak h) :)
    ·refine cq 11 [48,52] [B false,B (c_1.Op != 3)] 370 ?_
     obtain⟨y16,hy16,hy161,hy162⟩:=bL h
     have j16:∀u16,y16=.inr u16→Run (mo be) 0 (fk be (c_1,cE) r) (.code rd::.code pI::[]) (sT 78 [(1,I (ai (cE+1))),(2,.hp 1 0 [] 4 0 0),(63,B u16)] [⟨0,4,[ao c_1]⟩] 2):=by
      intro u16 hu
      replace h:=hy162 u16 hu
      exact rf [1,2,63] [1] (j9 _ (ak h) :)
     have r16:∀r',y16=.inl r'→∀st,fk be (c_1,cE) r' st→(fk be (c_1,cE) r) st:=fun r' e st hq=>r9 r' (hy161 r' e) st hq
     replace h:=hy16
     refine sp 52 h rfl ?_ ?_<;>intro h
     ·refine cq 6 [58] [B (c_1.Day != 0)] 466 ?_
      obtain⟨y17,hy17,hy171,hy172⟩:=bL h
      have j17:∀u17,y17=.inr u17→Run (mo be) 0 (fk be (c_1,cE) r) (.code rd::.code pI::[]) (sT 78 [(1,I (ai (cE+1))),(2,.hp 1 0 [] 4 0 0),(63,B u17)] [⟨0,4,[ao c_1]⟩] 2):=by
       intro u17 hu
       replace h:=hy172 u17 hu
       exact rf [1,2,63] [1] (j16 _ (ak h) :)
      have r17:∀r',y17=.inl r'→∀st,fk be (c_1,cE) r' st→(fk be (c_1,cE) r) st:=fun r' e st hq=>r16 r' (hy171 r' e) st hq
      replace h:=hy17
      refine sp 58 h rfl ?_ ?_<;>intro h
      ·refine cq 6 [63] [B true] 546 ?_
       exact rf [1,2,63] [1] (j17 _ (ak h) :)
      ·refine cq 2 [60] [I c_1.Day] 498 ?_
       obtain⟨r18,hr18,h⟩:=bS h
       refine oy 514 (B r18) rfl (cP (vc hr18)) ?_
       refine cq 3 [63] [B (!r18)] 546 ?_
       exact rf [1,2,63] [1] (j17 _ (ak h) :)
     ·refine cq 8 [58,60] [B false,I c_1.Day] 498 ?_
      obtain⟨r19,hr19,h⟩:=bS h
      refine oy 514 (B r19) rfl (cP (vc hr19)) ?_
      refine cq 3 [63] [B (!r19)] 546 ?_
      exact rf [1,2,63] [1] (j16 _ (ak h) :)
 have r3:∀r',y3=.inl r'→∀st,fk be (c_1,cE) r' st→(fk be (c_1,cE) r) st:=fun r' e st hq=>by rw[hy31 r' e] at hq;exact hq
 replace h:=hy3
 refine sp 13 h rfl ?_ ?_<;>intro h
 ·refine dk 16 [29,28,27,26,25,24,23,22,21,20,19,18,17,16,15,14] [B true,.und,.und,.und,.und,.und,.und,.und,.und,.und,B true,B true,.und,.und,.und,.und] ?_
  refine de 417 rfl rfl ?_
  exact rf [1,2,29] [1] (j3 _ (ak h) :)
 ·refine dy [1] [] (.hp 1 0 [] 4 0 0) rfl (an rfl rfl rfl) ?_
  refine dy [1] [] (I c_1.Op) rfl (aN rfl rfl) ?_
  obtain⟨r20,hr20,h⟩:=bS h
  refine dy [] [] (B r20) rfl (cP (iR hr20)) ?_ (dU rfl rfl rfl rfl (bC (cg rfl) (bC (cg rfl) (bC (cg rfl) dM))) (iR hr20) (.inr rfl) rfl)
  refine dk 3 [19,18,17] [B (!r20),B (!r20),B (!r20)] ?_
  obtain⟨y21,hy21,hy211,hy212⟩:=bL h
  have j21:∀u21,y21=.inr u21→Run (mo be) 0 (fk be (c_1,cE) r) (.code (cR (cL (cR (cR (cR vb)))))::.code (cR (cR (cR (cR vb))))::[]) (sT 78 [(1,I (ai (cE+1))),(2,.hp 1 0 [] 4 0 0),(29,B u21)] [⟨0,4,[ao c_1]⟩] 2):=by
   intro u21 hu
   replace h:=hy212 u21 hu
   exact rf [1,2,29] [1] (j3 _ (ak h) :)
  have r21:∀r',y21=.inl r'→∀st,fk be (c_1,cE) r' st→(fk be (c_1,cE) r) st:=fun r' e st hq=>r3 r' (hy211 r' e) st hq
  replace h:=hy21
  refine sp 19 h rfl ?_ ?_<;>intro h
  ·refine dk 10 [29,28,27,26,25,24,23,22,21,20] [B true,.und,.und,.und,.und,.und,.und,.und,.und,.und] ?_
   refine de 417 rfl rfl ?_
   exact rf [1,2,29] [1] (j21 _ (ak h) :)
  ·refine dy [1] [] (.hp 1 0 [] 4 0 3) rfl (an rfl rfl rfl) ?_
   refine dy [1] [] (.isl false (c_1.Parts.map aE)) rfl (aN rfl rfl) ?_
   refine dy [] [] (I (len c_1.Parts)) rfl (bu rfl rfl rfl (bI rfl)) ?_
   refine dk 1 [23] [.hs 81 0 [] 1 0 7] ?_
   refine dy [1] [] (.hp 1 0 [] 4 0 0) rfl (an rfl rfl rfl) ?_
   refine dy [1] [] (I c_1.Op) rfl (aN rfl rfl) ?_
   obtain⟨e22,he22,h⟩:=bS h
   refine dy [81] [] (.hp 81 0 [] 1 (0+Int.toNat c_1.Op) 0) rfl (aj rfl rfl rfl (dD (f:=I) (xs:=[(-1),0,0,0,1,2,2]) rfl rfl rfl he22)) ?_
   refine dy [81] [] (I e22) rfl (aN rfl (fH (path:=[]) rfl rfl rfl aW (cS (f:=I) (xs:=[(-1),0,0,0,1,2,2]) he22) rfl rfl rfl)) ?_
   refine dk 2 [29,28] [B ((len c_1.Parts) != e22),B ((len c_1.Parts) != e22)] ?_
   refine de 417 rfl rfl ?_
   exact rf [1,2,29] [1] (j21 _ (ak h) :)
theorem Ws {G:Go.Ln.Ground}:aV Tryz.prog G 240 Hu:=km fun be g_Ffm=>gT 2 0 (aM g_Ffm (aM uY (aM Cf (aM jP bF)))) ci Tryz.func240 (fun a r h=>YF be a.1 a.2 r h)
noncomputable def Jd:Condition→List V:=oA bB
noncomputable def Je (r:Bool):V×List V:=(B r,[])
noncomputable def G4:Ent:=bm [false] Jd Je fun x=>Kq x
theorem acj {c_1:Condition}{r}(h:Kq c_1=some r):G4.F (Jd c_1)=some (Je r):=aI (aJ dt) h
noncomputable def acl:Code:=aG Tryz.f194
noncomputable def XK:Env:=b7 Tryz.prog [(240,Hu)]
noncomputable def ack (x:Condition)(r:Bool):St→Prop:=QF XK Tryz.f194 [false] (Jd x) (Je r)
theorem Yk (c_1:Condition)(r:Bool)(h:Kq c_1=some r):bA XK Tryz.f194 [false] 0 (Jd c_1) (Je r):=by
 show Run _ _ (ack c_1 r) [.code acl] _
 refine rI 6 [(0,ao c_1)] [] 1 ?_
 unfold Kq at h
 refine cq 8 [3] [ao c_1] 49 ?_
 obtain⟨r2,hr2,h⟩:=bS h
 refine oq 65 (I r2) rfl (cP (acA hr2)) ?_
 refine cq 3 [2] [B (decide (r2>0))] 97 ?_
 obtain rfl:=Option.some.inj h
 exact rP [B (decide (r2>0))]
theorem Vh {G:Go.Ln.Ground}:aV Tryz.prog G 194 G4:=gT 1 0 (aM Ws bF) ci Tryz.func194 (fun a r h=>Yk a r h)
noncomputable def JJ:(Contract×Int)→List V:=cA aX (oA I)
noncomputable def JK (r:Bool):V×List V:=(B r,[])
noncomputable def Hx:Ent:=bm [false,false] JJ JK fun x=>Li x.1 x.2
theorem acH {c_1:Contract}{i_2:Int}{r}(h:Li c_1 i_2=some r):Hx.F (JJ (c_1,i_2))=some (JK r):=aI (aU bn (aJ bG)) h
noncomputable def lZ:Code:=aG Tryz.f136
noncomputable abbrev Lj:Code:=cR (cL (cR (cR (cR (cR lZ)))))
noncomputable abbrev xb:Code:=cR (cR (cR (cR (cR (cR lZ)))))
noncomputable abbrev F0:Code:=cR (cL (cR (cR (cR (cR (cR lZ))))))
noncomputable abbrev Ll:Code:=cR (cR (cR xb))
noncomputable def kb:Env:=b7 Tryz.prog [(99,qP),(110,jf),(193,Hs),(194,G4)]
noncomputable def eF (x:Contract×Int)(r:Bool):St→Prop:=QF kb Tryz.f136 [false,false] (JJ x) (JK r)
theorem YK (c_1:Contract)(i_2:Int)(r:Bool)(h:Li c_1 i_2=some r):bA kb Tryz.f136 [false,false] 0 (JJ (c_1,i_2)) (JK r):=by
 show Run _ _ (eF (c_1,i_2) r) [.code lZ] _
 refine rI 119 [(0,aa c_1),(1,I i_2)] [] 1 ?_
 unfold Li at h
 refine ck 10 [2,9,10] [] [1] [] [.hp 1 0 [] 2 0 0,.isl false (c_1.Clauses.map au),I i_2] [some ⟨0,2,[aa c_1]⟩] 81 (by kernel_rfl) ?_
 obtain⟨e3,he3,h⟩:=bS h
 refine oq 97 (.iptr (az e3) 0) rfl (aj rfl rfl rfl (bd rfl rfl rfl rfl he3)) ?_
 refine ck 2 [5,12] [] [113] [] [.hp 113 0 [] 12 0 0,az e3] [some ⟨0,12,[.agg [str ([]),I (0),I (0),str ([]),I (0),I (0),I (0),str ([]),I (0),.isl true [],I (0),str ([])]]⟩] 129 (by kernel_rfl) ?_
 refine fI 113 [.agg [str ([]),I (0),I (0),str ([]),I (0),I (0),I (0),str ([]),I (0),.usl 4 (([]).map aC),I (0),str ([])]] rfl rfl (aL (gU (aL (.refl _) (aL (.refl _) (aL (.refl _) (aL (.refl _) (aL (.refl _) (aL (.refl _) (aL (.refl _) (aL (.refl _) (aL (.refl _) (aL (.nil _) (aL (.refl _) (aL (.refl _) eL))))))))))))) eL) ?_
 refine ck 6 [14] [] [113] [] [.isl false (c_1.Parties.map str)] [some ⟨2,12,[az e3]⟩] 177 (by kernel_rfl) ?_
 refine oq 193 (I (len c_1.Parties)) rfl (bu rfl rfl rfl (bI rfl)) ?_
 refine cq 8 [6,18] [I (ai ((len c_1.Parties) - 1)),str e3.Id] 257 ?_
 obtain⟨r4,hr4,h⟩:=bS h
 refine oq 273 (B r4) rfl (cP (Fr hr4)) ?_
 refine cq 2 [21] [B (!r4)] 305 ?_
 obtain⟨y5,hy5,hy51,hy52⟩:=bJ h
 have j5:∀u5,y5=.inr u5→Run kb 0 (eF (c_1,i_2) r) (.code (cR (cL (cR (cR (cR lZ)))))::.code (cR (cR (cR (cR lZ))))::[]) (sT 119 [(1,I i_2),(2,.hp 1 0 [] 2 0 0),(5,.hp 2 0 [] 12 0 0),(6,I (ai ((len c_1.Parties) - 1))),(40,B u5)] [⟨0,2,[aa c_1]⟩,⟨0,12,[az e3]⟩] 3):=by
  intro u5 hu
  replace h:=hy52 u5 hu
  refine sq h ?_ ?_<;>intro h
  ·refine cq 4 [4] [B false] 19 ?_
   obtain rfl:=Option.some.inj h
   exact rP [B false]
  ·refine aq 1 ?_
   refine cq 6 [42,43] [I e3.Party,I (ai ((len c_1.Parties) - 1))] 51 ?_
   obtain⟨r6,hr6,h⟩:=bS h
   refine oq 67 (B r6) rfl (cP (iR hr6)) ?_
   refine cq 2 [46] [B (!r6)] 99 ?_
   obtain⟨y7,hy7,hy71,hy72⟩:=bJ h
   have j7:∀u7,y7=.inr u7→Run kb 0 (eF (c_1,i_2) r) (.code Lj::.code (cR (cR (cR (cR (cR lZ)))))::[]) (sT 119 [(1,I i_2),(2,.hp 1 0 [] 2 0 0),(5,.hp 2 0 [] 12 0 0),(65,B u7)] [⟨0,2,[aa c_1]⟩,⟨0,12,[az e3]⟩] 3):=by
    intro u7 hu
    replace h:=hy72 u7 hu
    refine sq h ?_ ?_<;>intro h
    ·refine cq 4 [4] [B false] 19 ?_
     obtain rfl:=Option.some.inj h
     exact rP [B false]
    ·refine aq 1 ?_
     refine cq 5 [67] [I e3.Amount] 35 ?_
     obtain⟨r8,hr8,h⟩:=bS h
     refine oq 51 (B r8) rfl (cP (iR hr8)) ?_
     refine cq 2 [70] [B (!r8)] 83 ?_
     obtain⟨y9,hy9,hy91,hy92⟩:=bJ h
     have j9:∀u9,y9=.inr u9→Run kb 0 (eF (c_1,i_2) r) (.code F0::.code xb::[]) (sT 119 [(1,I i_2),(2,.hp 1 0 [] 2 0 0),(5,.hp 2 0 [] 12 0 0),(90,B u9)] [⟨0,2,[aa c_1]⟩,⟨0,12,[az e3]⟩] 3):=by
      intro u9 hu
      replace h:=hy92 u9 hu
      refine sq h ?_ ?_<;>intro h
      ·refine cq 4 [4] [B false] 19 ?_
       obtain rfl:=Option.some.inj h
       exact rP [B false]
      ·refine aq 1 ?_
       refine cq 7 [93] [B (e3.Repair==([]:ac))] 51 ?_
       refine sq h ?_ ?_<;>intro h
       ·refine cq 4 [4] [B true] 67 ?_
        obtain rfl:=Option.some.inj h
        exact rP [B true]
       ·refine aq 1 ?_
        refine cq 5 [94,96] [aa c_1,str e3.Repair] 99 ?_
        obtain⟨r10,hr10,h⟩:=bS h
        refine oq 115 (I r10) rfl (cP (XR hr10)) ?_
        refine cq 8 [7,101] [I r10,B (e3.Kind != 3)] 195 ?_
        obtain⟨y11,hy11,hy111,hy112⟩:=bJ h
        have j11:∀u11,y11=.inr u11→Run kb 0 (eF (c_1,i_2) r) (.code Ll::[]) (sT 119 [(4,B u11)] [] 1):=by
         intro u11 hu
         replace h:=hy112 u11 hu
         obtain rfl:=Option.some.inj h
         exact rP [B u11]
        have r11:∀r',y11=.inl r'→∀st,eF (c_1,i_2) r' st→(eF (c_1,i_2) r) st:=fun r' e st hq=>by rw[hy111 r' e] at hq;exact hq
        replace h:=hy11
        refine sp 101 h rfl ?_ ?_<;>intro h
        ·refine cq 4 [105] [B (decide (r10≥0))] 259 ?_
         obtain⟨y12,hy12,hy121,hy122⟩:=bL h
         have j12:∀u12,y12=.inr u12→Run kb 0 (eF (c_1,i_2) r) (.code Ll::[]) (sT 119 [(4,B u12)] [] 1):=by
          intro u12 hu
          replace h:=hy122 u12 hu
          exact rf [4] [] (j11 _ (ak h) :)
         have r12:∀r',y12=.inl r'→∀st,eF (c_1,i_2) r' st→(eF (c_1,i_2) r) st:=fun r' e st hq=>r11 r' (hy121 r' e) st hq
         replace h:=hy12
         refine sp 105 h rfl ?_ ?_<;>intro h
         ·refine cq 5 [110] [B (r10 != i_2)] 339 ?_
          obtain⟨y13,hy13,hy131,hy132⟩:=bL h
          have j13:∀u13,y13=.inr u13→Run kb 0 (eF (c_1,i_2) r) (.code Ll::[]) (sT 119 [(4,B u13)] [] 1):=by
           intro u13 hu
           replace h:=hy132 u13 hu
           exact rf [4] [] (j12 _ (ak h) :)
          have r13:∀r',y13=.inl r'→∀st,eF (c_1,i_2) r' st→(eF (c_1,i_2) r) st:=fun r' e st hq=>r12 r' (hy131 r' e) st hq
          replace h:=hy13
          refine sp 110 h rfl ?_ ?_<;>intro h
          ·refine cq 3 [112,113] [.isl false (c_1.Clauses.map au),I r10] 387 ?_
           obtain⟨e14,he14,h⟩:=bS h
           refine oy 403 (.iptr (az e14) 0) rfl (aj rfl rfl rfl (bd rfl rfl rfl rfl he14)) ?_
           refine cq 6 [4] [B (e14.Kind==1)] 483 ?_
           exact rf [4] [] (j13 _ (ak h) :)
          ·refine cq 10 [4] [B false] 483 ?_
           exact rf [4] [] (j13 _ (ak h) :)
         ·refine cq 15 [4] [B false] 483 ?_
          exact rf [4] [] (j12 _ (ak h) :)
        ·refine cq 19 [4] [B false] 483 ?_
         exact rf [4] [] (j11 _ (ak h) :)
     have r9:∀r',y9=.inl r'→∀st,eF (c_1,i_2) r' st→(eF (c_1,i_2) r) st:=fun r' e st hq=>by rw[hy91 r' e] at hq;exact hq
     replace h:=hy9
     refine sp 70 h rfl ?_ ?_<;>intro h
     ·refine cq 21 [90] [B true] 403 ?_
      exact rf [1,2,5,90] [1,2] (j9 _ (ak h) :)
     ·refine cq 2 [72] [I e3.Within] 115 ?_
      obtain⟨r15,hr15,h⟩:=bS h
      refine oy 131 (B r15) rfl (cP (iR hr15)) ?_
      refine cq 3 [76] [B (!r15)] 179 ?_
      obtain⟨u16,hu16,h⟩:=lJ h
      have j16:Run kb 0 (eF (c_1,i_2) r) (.code F0::.code xb::[]) (sT 119 [(1,I i_2),(2,.hp 1 0 [] 2 0 0),(5,.hp 2 0 [] 12 0 0),(90,B u16)] [⟨0,2,[aa c_1]⟩,⟨0,12,[az e3]⟩] 3):=by
       exact rf [1,2,5,90] [1,2] (j9 _ (ak h) :)
      replace h:=hu16
      clear hu16
      refine sp 76 h rfl ?_ ?_<;>intro h
      ·refine cq 15 [90] [B true] 403 ?_
       subst h
       exact rf [1,2,5,90] [1,2] (j16 :)
      ·refine cq 4 [80] [B (e3.Kind != 1)] 243 ?_
       obtain⟨u17,hu17,h⟩:=lJ h
       have j17:Run kb 0 (eF (c_1,i_2) r) (.code F0::.code xb::[]) (sT 119 [(1,I i_2),(2,.hp 1 0 [] 2 0 0),(5,.hp 2 0 [] 12 0 0),(90,B u17)] [⟨0,2,[aa c_1]⟩,⟨0,12,[az e3]⟩] 3):=by
        subst h
        exact rf [1,2,5,90] [1,2] (j16 :)
       replace h:=hu17
       clear hu17
       refine sp 80 h rfl ?_ ?_<;>intro h
       ·refine cq 4 [84] [B (e3.Amount != 0)] 307 ?_
        obtain⟨u18,hu18,h⟩:=lJ h
        have j18:Run kb 0 (eF (c_1,i_2) r) (.code F0::.code xb::[]) (sT 119 [(1,I i_2),(2,.hp 1 0 [] 2 0 0),(5,.hp 2 0 [] 12 0 0),(90,B u18)] [⟨0,2,[aa c_1]⟩,⟨0,12,[az e3]⟩] 3):=by
         subst h
         exact rf [1,2,5,90] [1,2] (j17 :)
        replace h:=hu18
        clear hu18
        refine sp 84 h rfl ?_ ?_<;>intro h
        ·refine cq 7 [90] [B true] 403 ?_
         subst h
         exact rf [1,2,5,90] [1,2] (j18 :)
        ·refine cq 7 [90] [B (e3.Within != 0)] 403 ?_
         subst h
         exact rf [1,2,5,90] [1,2] (j18 :)
       ·refine cq 11 [90] [B false] 403 ?_
        subst h
        exact rf [1,2,5,90] [1,2] (j17 :)
   have r7:∀r',y7=.inl r'→∀st,eF (c_1,i_2) r' st→(eF (c_1,i_2) r) st:=fun r' e st hq=>by rw[hy71 r' e] at hq;exact hq
   replace h:=hy7
   refine sp 46 h rfl ?_ ?_<;>intro h
   ·refine cq 20 [65] [B true] 403 ?_
    exact rf [1,2,5,65] [1,2] (j7 _ (ak h) :)
   ·refine cq 3 [48,49] [I e3.Other,I (ai ((len c_1.Parties) - 1))] 147 ?_
    obtain⟨r19,hr19,h⟩:=bS h
    refine oy 163 (B r19) rfl (cP (iR hr19)) ?_
    refine cq 3 [53] [B (!r19)] 211 ?_
    obtain⟨y20,hy20,hy201,hy202⟩:=bL h
    have j20:∀u20,y20=.inr u20→Run kb 0 (eF (c_1,i_2) r) (.code Lj::.code (cR (cR (cR (cR (cR lZ)))))::[]) (sT 119 [(1,I i_2),(2,.hp 1 0 [] 2 0 0),(5,.hp 2 0 [] 12 0 0),(65,B u20)] [⟨0,2,[aa c_1]⟩,⟨0,12,[az e3]⟩] 3):=by
     intro u20 hu
     replace h:=hy202 u20 hu
     exact rf [1,2,5,65] [1,2] (j7 _ (ak h) :)
    have r20:∀r',y20=.inl r'→∀st,eF (c_1,i_2) r' st→(eF (c_1,i_2) r) st:=fun r' e st hq=>r7 r' (hy201 r' e) st hq
    replace h:=hy20
    refine sp 53 h rfl ?_ ?_<;>intro h
    ·refine cq 13 [65] [B true] 403 ?_
     exact rf [1,2,5,65] [1,2] (j20 _ (ak h) :)
    ·refine cq 7 [60] [B (e3.Party==e3.Other)] 323 ?_
     obtain⟨y21,hy21,hy211,hy212⟩:=bL h
     have j21:∀u21,y21=.inr u21→Run kb 0 (eF (c_1,i_2) r) (.code Lj::.code (cR (cR (cR (cR (cR lZ)))))::[]) (sT 119 [(1,I i_2),(2,.hp 1 0 [] 2 0 0),(5,.hp 2 0 [] 12 0 0),(65,B u21)] [⟨0,2,[aa c_1]⟩,⟨0,12,[az e3]⟩] 3):=by
      intro u21 hu
      replace h:=hy212 u21 hu
      exact rf [1,2,5,65] [1,2] (j20 _ (ak h) :)
     have r21:∀r',y21=.inl r'→∀st,eF (c_1,i_2) r' st→(eF (c_1,i_2) r) st:=fun r' e st hq=>r20 r' (hy211 r' e) st hq
     replace h:=hy21
     refine sp 60 h rfl ?_ ?_<;>intro h
     ·refine cq 6 [65] [B true] 403 ?_
      exact rf [1,2,5,65] [1,2] (j21 _ (ak h) :)
     ·refine cq 2 [62] [ao e3.When] 355 ?_
      obtain⟨r22,hr22,h⟩:=bS h
      refine oy 371 (B r22) rfl (cP (acj hr22)) ?_
      refine cq 3 [65] [B (!r22)] 403 ?_
      exact rf [1,2,5,65] [1,2] (j21 _ (ak h) :)
 have r5:∀r',y5=.inl r'→∀st,eF (c_1,i_2) r' st→(eF (c_1,i_2) r) st:=fun r' e st hq=>by rw[hy51 r' e] at hq;exact hq
 replace h:=hy5
 refine sp 21 h rfl ?_ ?_<;>intro h
 ·refine cq 20 [40] [B true] 609 ?_
  exact rf [1,2,5,6,40] [1,113] (j5 _ (ak h) :)
 ·refine cq 3 [22,24] [aa c_1,str e3.Id] 353 ?_
  obtain⟨r23,hr23,h⟩:=bS h
  refine oy 369 (I r23) rfl (cP (XR hr23)) ?_
  refine cq 4 [29] [B (r23 != i_2)] 433 ?_
  obtain⟨y24,hy24,hy241,hy242⟩:=bL h
  have j24:∀u24,y24=.inr u24→Run kb 0 (eF (c_1,i_2) r) (.code (cR (cL (cR (cR (cR lZ)))))::.code (cR (cR (cR (cR lZ))))::[]) (sT 119 [(1,I i_2),(2,.hp 1 0 [] 2 0 0),(5,.hp 2 0 [] 12 0 0),(6,I (ai ((len c_1.Parties) - 1))),(40,B u24)] [⟨0,2,[aa c_1]⟩,⟨0,12,[az e3]⟩] 3):=by
   intro u24 hu
   replace h:=hy242 u24 hu
   exact rf [1,2,5,6,40] [1,2] (j5 _ (ak h) :)
  have r24:∀r',y24=.inl r'→∀st,eF (c_1,i_2) r' st→(eF (c_1,i_2) r) st:=fun r' e st hq=>r5 r' (hy241 r' e) st hq
  replace h:=hy24
  refine sp 29 h rfl ?_ ?_<;>intro h
  ·refine cq 12 [40] [B true] 609 ?_
   exact rf [1,2,5,6,40] [1,113] (j24 _ (ak h) :)
  ·refine cq 2 [31] [str e3.Action] 465 ?_
   obtain⟨r25,hr25,h⟩:=bS h
   refine oy 481 (B r25) rfl (cP (Fr hr25)) ?_
   refine cq 3 [35] [B (!r25)] 529 ?_
   obtain⟨y26,hy26,hy261,hy262⟩:=bL h
   have j26:∀u26,y26=.inr u26→Run kb 0 (eF (c_1,i_2) r) (.code (cR (cL (cR (cR (cR lZ)))))::.code (cR (cR (cR (cR lZ))))::[]) (sT 119 [(1,I i_2),(2,.hp 1 0 [] 2 0 0),(5,.hp 2 0 [] 12 0 0),(6,I (ai ((len c_1.Parties) - 1))),(40,B u26)] [⟨0,2,[aa c_1]⟩,⟨0,12,[az e3]⟩] 3):=by
    intro u26 hu
    replace h:=hy262 u26 hu
    exact rf [1,2,5,6,40] [1,2] (j24 _ (ak h) :)
   have r26:∀r',y26=.inl r'→∀st,eF (c_1,i_2) r' st→(eF (c_1,i_2) r) st:=fun r' e st hq=>r24 r' (hy261 r' e) st hq
   replace h:=hy26
   refine sp 35 h rfl ?_ ?_<;>intro h
   ·refine cq 6 [40] [B true] 609 ?_
    exact rf [1,2,5,6,40] [1,113] (j26 _ (ak h) :)
   ·refine cq 2 [37] [I e3.Kind] 561 ?_
    obtain⟨r27,hr27,h⟩:=bS h
    refine oy 577 (B r27) rfl (cP (iR hr27)) ?_
    refine cq 3 [40] [B (!r27)] 609 ?_
    exact rf [1,2,5,6,40] [1,113] (j26 _ (ak h) :)
theorem Wv {G:Go.Ln.Ground}:aV Tryz.prog G 136 Hx:=gT 2 0 (aM uY (aM jP (aM Wq (aM Vh bF)))) ci Tryz.func136 (fun a r h=>YK a.1 a.2 r h)
noncomputable def FN:(Condition×(List ac))→List V:=cA bB (oA (rC 1 str))
noncomputable def FP (r:(List ac)):V×List V:=(.usl 1 (r.map str),[.dead])
noncomputable def Cd (cB:(Condition×(List ac))→Option (List ac)):Ent:=bm [false,true] FN FP cB
theorem Tn (cB:(Condition×(List ac))→Option (List ac)){x}{r}(h:cB x=some r):(Cd cB).F (FN x)=some (FP r):=aI (aU dt (aJ (iQ bQ))) h
noncomputable def Hq:Ent:=Cd (aK nQ)
theorem XP {c_3:Condition}{dI:List ac}{r}(h:Tm c_3 dI=some r):Hq.F (FN (c_3,dI))=some (FP r):=Tn (aK nQ) h
noncomputable def Pf:Code:=aG Tryz.f195
noncomputable def Js (cB:(Condition×(List ac))→Option (List ac)):Env:=b7 Tryz.prog [(195,(Cd cB))]
noncomputable def FO (cB:(Condition×(List ac))→Option (List ac))(x:Condition×(List ac))(r:(List ac)):St→Prop:=QF (Js cB) Tryz.f195 [false,true] (FN x) (FP r)
theorem Pg (cB:(Condition×(List ac))→Option (List ac))(c_3:Condition)(dI:List ac):cj (Js cB) 1 (FO cB (c_3,dI)) (cL (cL (cR (cL (cR (cR Pf)))))) 0 (nR cB c_3 dI) (fun u=>(sO 27 [(1,.hs 2 0 [] 1 0 (u.map str).length)] [none,some ⟨0,1,u.map str⟩] 3)) fun x4=>(sO 27 [(1,.hs 2 0 [] 1 0 (x4.2.map str).length),(16,.isl false (c_3.Parts.map aE)),(17,I (len c_3.Parts)),(18,I x4.1)] [none,some ⟨0,1,x4.2.map str⟩] 3):=ef (FQ cB c_3 dI) fun {Q K} hK self ih x4 y h hr hn=>by
 unfold lA at h
 refine cq 5 [19] [B (decide (x4.1<(len c_3.Parts)))] 19 ?_
 refine sq h ?_ ?_<;>intro h
 ·refine aq 1 ?_
  refine aq 4 ?_
  obtain⟨e5,he5,h⟩:=bS h
  refine oq 35 (.iptr (ao e5) 0) rfl (aj rfl rfl rfl (bd rfl rfl (dm e5) rfl he5)) ?_
  refine ck 2 [6,21] [] [51] [] [.hp 51 0 [] 4 0 0,ao e5] [some ⟨0,4,[.agg [I (0),str ([]),I (0),.isl true []]]⟩] 67 (by kernel_rfl) ?_
  refine fI 51 [.agg [I (0),str ([]),I (0),.usl 4 (([]).map aC)]] rfl rfl (aL (gU (aL (.refl _) (aL (.refl _) (aL (.refl _) (aL (.nil _) eL))))) eL) ?_
  refine ck 5 [22,23] [] [51] [] [ao e5,.hs 2 0 [] 1 0 (x4.2.map str).length] [some ⟨2,4,[ao e5]⟩] 115 (by kernel_rfl) ?_
  obtain⟨r6,hr6,h⟩:=bS h
  refine oq 131 (.hs 115 0 [] 1 0 (r6.map str).length) rfl (cm rfl rfl (cU rfl rfl rfl (bC (cg rfl) (kV (jY rfl (f6 (path:=[]) rfl rfl aW rfl)) dM)) (Tn cB hr6) (.inr rfl) (jg rfl rfl rfl nA ew) rfl rfl rfl)) ?_
  refine cq 7 [1,18] [.hs 115 0 [] 1 0 (r6.map str).length,I (ai (x4.1+1))] 179 ?_
  refine cZ ?_
  exact rg [1,16,17,18] [180,115] (ih _ _ h hr hn :)
 ·refine aq 1 ?_
  exact rg [1] [20,2] (hn _ (ak h) :) (hk:=hK)
theorem YA (cB:(Condition×(List ac))→Option (List ac))(c_3:Condition)(dI:List ac)(r:(List ac))(h:ye cB c_3 dI=some r):bA (Js cB) Tryz.f195 [false,true] 1 (FN (c_3,dI)) (FP r):=by
 show Run _ _ (FO cB (c_3,dI) r) [.code Pf] _
 refine rI 27 [(0,ao c_3),(1,.hs 1 0 [] 1 0 (dI.map str).length)] [(1,some ⟨0,1,dI.map str⟩)] 2 ?_
 unfold ye at h
 refine ck 12 [2,9] [] [2] [] [.hp 2 0 [] 4 0 0,B (c_3.Op==2)] [some ⟨0,4,[ao c_3]⟩] 82 (by kernel_rfl) ?_
 obtain⟨y3,hy3,hy31,hy32⟩:=bJ h
 have j3:∀u3,y3=.inr u3→Run (Js cB) 1 (FO cB (c_3,dI) r) (.code (cR (cR Pf))::[]) (sO 27 [(1,.hs 2 0 [] 1 0 (u3.map str).length),(2,.hp 3 0 [] 4 0 0)] [none,some ⟨0,1,u3.map str⟩,some ⟨0,4,[ao c_3]⟩] 4):=by
  intro u3 hu
  replace h:=hy32 u3 hu
  refine cq 5 [16] [.isl false (c_3.Parts.map aE)] 36 ?_
  refine oq 52 (I (len c_3.Parts)) rfl (bu rfl rfl rfl (bI rfl)) ?_
  refine cq 3 [18] [I (0)] 68 ?_
  obtain⟨y7,hy7,hy71,hy72⟩:=bJ h
  refine bN rfl ?_
  refine rg [1,16,17,18] [69,2] (Pg cB c_3 dI rfl (0,u3) _ hy7 (fun r' e st hq=>by rw[hy71 r' e] at hq;exact hq) fun u7 hu=>?_)
  replace h:=hy72 u7 hu
  refine cq 5 [4] [.hs 2 0 [] 1 0 (u7.map str).length] 35 ?_
  obtain rfl:=Option.some.inj h
  exact co rfl ⟨_,fin (vs:=[.hs 2 0 [] 1 0 (u7.map str).length]) rfl (gp (gc rfl (dV rfl rfl)) eB) rfl (dj (lK rfl (qz rfl) fw)),vv fp⟩
 have r3:∀r',y3=.inl r'→∀st,FO cB (c_3,dI) r' st→(FO cB (c_3,dI) r) st:=fun r' e st hq=>by rw[hy31 r' e] at hq;exact hq
 replace h:=hy3
 refine sq h ?_ ?_<;>intro h
 ·refine cq 4 [10,12] [.hs 1 0 [] 1 0 (dI.map str).length,str c_3.Name] 130 ?_
  refine oq 146 (.hs 130 0 [] 1 0 1) rfl (fa rfl (mu (f:=I) (xs:=[]) (z:=str ([])) (es:=[str c_3.Name]) (ws:=[str c_3.Name]) rfl rfl rfl (by decide) rfl (ed rfl) rfl)) ?_
  obtain⟨a8,ha8,h⟩:=bS h
  refine oq 162 (.hs 146 0 [] 1 0 (a8.map str).length) rfl (kf rfl rfl rfl rfl rfl (nT (path:=[]) (f:=str) (xs:=dI) (ys:=[c_3.Name]) rfl rfl (uz rfl rfl rfl) rfl rfl rfl aW rfl (by decide) lP ha8 rfl rB)) ?_
  refine cq 2 [1] [.hs 146 0 [] 1 0 (a8.map str).length] 178 ?_
  exact rg [1,2] [179,146,2] (j3 _ (ak h) :)
 ·refine aq 1 ?_
  exact rg [1,2] [83,1,2] (j3 _ (ak h) :)
theorem Wo {G:Go.Ln.Ground}:aV Tryz.prog G 195 Hq:=km fun cB g_Ffi=>gT 2 1 (aM g_Ffi bF) ci Tryz.func195 (fun a r h=>YA cB a.1 a.2 r h)
noncomputable def ME:Shelf.Ren:=⟨fun | 190=>230 | 125=>260 | 258=>259 | 128=>284 | 129=>285 | 302=>275 | 303=>276 | 304=>277 | 305=>278 | 306=>279 | 307=>280 | 308=>281 | 309=>282 | 310=>283 | 333=>296 | 329=>297 | 330=>298 | 334=>299 | 335=>300 | 336=>274 | 344=>305 | n=>n,fun | 31=>22 | 9=>9 | 3=>3 | 46=>219 | 0=>0 | 51=>241 | 53=>226 | 4=>4 | 183=>234 | 182=>233 | 131=>46 | 5=>5 | 218=>245 | 222=>249 | 228=>257 | 229=>258 | n=>n,fun | n=>n⟩
theorem XD:Go.Proofs.Lays.n190 Tryz.prog ME where
 mixed:=by kernel_rfl
 f125:=Tryz.func260.trans (congrArg some (by kernel_rfl))
 f128:=Tryz.func284.trans (congrArg some (by kernel_rfl))
 f129:=Tryz.func285.trans (congrArg some (by kernel_rfl))
 f190:=Tryz.func230.trans (congrArg some (by kernel_rfl))
 f258:=Tryz.func259.trans (congrArg some (by kernel_rfl))
 f302:=Tryz.func275.trans (congrArg some (by kernel_rfl))
 f303:=Tryz.func276.trans (congrArg some (by kernel_rfl))
 f304:=Tryz.func277.trans (congrArg some (by kernel_rfl))
 f305:=Tryz.func278.trans (congrArg some (by kernel_rfl))
 f306:=Tryz.func279.trans (congrArg some (by kernel_rfl))
 f307:=Tryz.func280.trans (congrArg some (by kernel_rfl))
 f308:=Tryz.func281.trans (congrArg some (by kernel_rfl))
 f309:=Tryz.func282.trans (congrArg some (by kernel_rfl))
 f310:=Tryz.func283.trans (congrArg some (by kernel_rfl))
 f329:=Tryz.func297.trans (congrArg some (by kernel_rfl))
 f330:=Tryz.func298.trans (congrArg some (by kernel_rfl))
 f333:=Tryz.func296.trans (congrArg some (by kernel_rfl))
 f334:=Tryz.func299.trans (congrArg some (by kernel_rfl))
 f335:=Tryz.func300.trans (congrArg some (by kernel_rfl))
 f336:=Tryz.func274.trans (congrArg some (by kernel_rfl))
 f344:=Tryz.func305.trans (congrArg some (by kernel_rfl))
 t0:=Tryz.underlying0
 a0:=Tryz.isAgg0
 z0:=Tryz.sizeOf0
 v0:=Tryz.zeroValue0
 t3:=Tryz.underlying3
 a3:=Tryz.isAgg3
 z3:=Tryz.sizeOf3
 v3:=Tryz.zeroValue3
 t4:=Tryz.underlying4
 a4:=Tryz.isAgg4
 z4:=Tryz.sizeOf4
 v4:=Tryz.zeroValue4
 t5:=Tryz.underlying5
 a5:=Tryz.isAgg5
 z5:=Tryz.sizeOf5
 v5:=Tryz.zeroValue5
 t9:=Tryz.underlying9
 a9:=Tryz.isAgg9
 z9:=Tryz.sizeOf9
 v9:=Tryz.zeroValue9
 t31:=Tryz.underlying22
 a31:=Tryz.isAgg22
 z31:=Tryz.sizeOf22
 v31:=Tryz.zeroValue22
 t46:=Tryz.underlying219
 a46:=Tryz.isAgg219
 z46:=Tryz.sizeOf219
 v46:=Tryz.zeroValue219
 t51:=Tryz.underlying241
 a51:=Tryz.isAgg241
 z51:=Tryz.sizeOf241
 v51:=Tryz.zeroValue241
 t53:=Tryz.underlying226
 a53:=Tryz.isAgg226
 z53:=Tryz.sizeOf226
 v53:=Tryz.zeroValue226
 t131:=Tryz.underlying46
 a131:=Tryz.isAgg46
 z131:=Tryz.sizeOf46
 v131:=Tryz.zeroValue46
 t182:=Tryz.underlying233
 a182:=Tryz.isAgg233
 z182:=Tryz.sizeOf233
 v182:=Tryz.zeroValue233
 t183:=Tryz.underlying234
 a183:=Tryz.isAgg234
 z183:=Tryz.sizeOf234
 v183:=Tryz.zeroValue234
 t218:=Tryz.underlying245
 a218:=Tryz.isAgg245
 z218:=Tryz.sizeOf245
 v218:=Tryz.zeroValue245
 t222:=Tryz.underlying249
 a222:=Tryz.isAgg249
 z222:=Tryz.sizeOf249
 v222:=Tryz.zeroValue249
 t228:=Tryz.underlying257
 a228:=Tryz.isAgg257
 z228:=Tryz.sizeOf257
 v228:=Tryz.zeroValue257
 t229:=Tryz.underlying258
 a229:=Tryz.isAgg258
 z229:=Tryz.sizeOf258
 v229:=Tryz.zeroValue258
noncomputable def vM:Ent:=bm [true] (oA (rC 1 str)) (fun r=>(.tup [],[.usl 1 (r.map str)])) uC
theorem XC {l:List ac}{r}(h:uC l=some r):vM.F [.usl 1 (l.map str)]=some (.tup [],[.usl 1 (r.map str)]):=aI (ea:=oA (rC 1 str)) (aJ (iQ bQ)) h
theorem NR {G:Go.Ln.Ground}:aV Tryz.prog G 230 vM:=PH XD
noncomputable def DM:(List ac)→List V:=oA (rC 1 str)
noncomputable def DP (r:(List ac)):V×List V:=(.usl 1 (r.map str),[.dead])
noncomputable def Bj:Ent:=bm [true] DM DP fun x=>Bi x
theorem aaJ {s_2:List ac}{r}(h:Bi s_2=some r):Bj.F (DM s_2)=some (DP r):=aI (aJ (iQ bQ)) h
noncomputable def Kz:Code:=aG Tryz.f231
noncomputable abbrev G5:Code:=cL (cL (cR (cL (cR (cL (cR (cL (cL (cR (cL (cL (cR (cL (cR (cR Kz)))))))))))))))
noncomputable def wu:Env:=b7 Tryz.prog []
noncomputable def DN (x:(List ac))(r:(List ac)):St→Prop:=QF wu Tryz.f231 [true] (DM x) (DP r)
theorem MV (s_2:List ac)(x2:Int):cj wu 1 (DN s_2) G5 2 (kG s_2 x2) (fun u=>(sO 61 [(0,.hs 2 0 [] 1 0 (u.2.map str).length),(3,I u.1)] [none,some ⟨0,1,u.2.map str⟩] 3)) fun x6=>(sO 61 [(0,.hs 2 0 [] 1 0 (x6.2.2.map str).length),(3,I x6.1),(4,.hs 2 0 [] 1 (0+Int.toNat x2) (Int.toNat (len s_2) - Int.toNat x2)),(5,I x6.2.1)] [none,some ⟨0,1,x6.2.2.map str⟩] 3):=ef (yU s_2 x2) fun {Q K} hK self ih x6 y h hr hn=>by
 unfold lf at h
 refine cq 8 [32] [B (decide (x6.2.1<(((Int.toNat (len s_2) - Int.toNat x2):Nat):Int)))] 67 ?_
 refine sq h ?_ ?_<;>intro h
 ·refine aq 1 ?_
  refine aq 3 ?_
  refine dK [0,0,3,7,0,0,32,112,240,511] rfl (by decide +kernel) ?_
  refine dk 2 [36,35] [I x6.2.1,.hs 2 0 [] 1 (0+Int.toNat x2) (Int.toNat (len s_2) - Int.toNat x2)] ?_
  obtain⟨e7,he7,h⟩:=bS h
  refine dq [2] [] (.hp 2 0 [] 1 ((0+Int.toNat x2)+Int.toNat x6.2.1) 0) rfl (aj rfl rfl rfl (PQ (xs:=x6.2.2) rfl rfl he7)) ?_
  refine dq [2] [] (str e7) rfl (aN rfl (fH (path:=[]) rfl rfl rfl aW (LX (f:=str) (xs:=x6.2.2) he7) rfl rfl rfl)) ?_
  refine dk 3 [41,40,39] [I (ai (x6.2.1 - 1)),I x6.2.1,.hs 2 0 [] 1 (0+Int.toNat x2) (Int.toNat (len s_2) - Int.toNat x2)] ?_
  obtain⟨e8,he8,h⟩:=bS h
  refine dq [2] [] (.hp 2 0 [] 1 ((0+Int.toNat x2)+Int.toNat (ai (x6.2.1 - 1))) 0) rfl (aj rfl rfl rfl (PQ (xs:=x6.2.2) rfl rfl he8)) ?_
  refine dq [2] [] (str e8) rfl (aN rfl (fH (path:=[]) rfl rfl rfl aW (LX (f:=str) (xs:=x6.2.2) he8) rfl rfl rfl)) ?_
  refine dk 1 [44] [B (!(e7==e8))] ?_
  refine de 227 rfl rfl ?_
  obtain⟨y9,hy9,hy91,hy92⟩:=bL h
  have j9:∀u9,y9=.inr u9→Run wu 1 Q (.blk 3::.code (cR (cR G5))::.lp G5::.blk 2::K) (sO 61 [(0,.hs 2 0 [] 1 0 (u9.2.map str).length),(3,I u9.1),(4,.hs 2 0 [] 1 (0+Int.toNat x2) (Int.toNat (len s_2) - Int.toNat x2)),(5,I x6.2.1)] [none,some ⟨0,1,u9.2.map str⟩] 3):=by
   intro u9 hu
   replace h:=hy92 u9 hu
   refine cq 6 [5] [I (ai (x6.2.1+1))] 51 ?_
   refine cZ ?_
   exact rg [0,3,4,5] [52,2] (ih _ _ h hr hn :)
  have r9:∀r',y9=.inl r'→∀st,DN s_2 r' st→Q st:=fun r' e st hq=>hr r' (hy91 r' e) st hq
  replace h:=hy9
  refine sq h ?_ ?_<;>intro h
  ·refine cq 6 [45,46,47,48] [.hs 2 0 [] 1 0 (x6.2.2.map str).length,I x6.1,.hs 2 0 [] 1 (0+Int.toNat x2) (Int.toNat (len s_2) - Int.toNat x2),I x6.2.1] 291 ?_
   obtain⟨e10,he10,h⟩:=bS h
   refine oq 307 (.hp 2 0 [] 1 ((0+Int.toNat x2)+Int.toNat x6.2.1) 0) rfl (aj rfl rfl rfl (PQ (xs:=x6.2.2) rfl rfl he10)) ?_
   refine oq 323 (str e10) rfl (aN rfl (fH (path:=[]) rfl rfl rfl aW (LX (f:=str) (xs:=x6.2.2) he10) rfl rfl rfl)) ?_
   obtain⟨e11,he11,h⟩:=bS h
   refine oq 339 (.hp 2 0 [] 1 (0+Int.toNat x6.1) 0) rfl (aj rfl rfl rfl (dD (f:=str) (xs:=x6.2.2) rfl rfl rfl he11)) ?_
   refine o0 355 rfl rfl (fQ rfl rfl (eY (path:=[]) (pl:=true) (e':=str e10) (es2':=(cX x6.2.2 x6.1 e10).map str) rfl (dJ rfl) rfl rfl rfl aW (cS (f:=str) (xs:=x6.2.2) he11) rfl rfl rfl (iw (f:=str) (xs:=x6.2.2) (y:=e10)) ey 0 rfl)) ?_
   try rw[←gI (f:=str) (xs:=x6.2.2) (i:=x6.1) (z:=e10)]
   refine cq 6 [3] [I (ai (x6.1+1))] 403 ?_
   exact rg [0,3,4,5] [404,2] (j9 _ (ak h) :)
  ·refine aq 1 ?_
   exact rg [0,3,4,5] [228,2] (j9 _ (ak h) :)
 ·refine aq 1 ?_
  exact rg [0,3] [68,2] (hn _ (ak h) :) (hk:=hK)
theorem MU (s_2:List ac):cj wu 1 (DN s_2) (cL (cL (cR (cL (cR (cR Kz)))))) 0 (qJ s_2) (fun u=>(sO 61 [(0,.hs 2 0 [] 1 0 (u.map str).length)] [none,some ⟨0,1,u.map str⟩] 3)) fun x2=>(sO 61 [(0,.hs 2 0 [] 1 0 (s_2.map str).length),(3,I x2)] [none,some ⟨0,1,s_2.map str⟩] 3):=ef (yT s_2) fun {Q K} hK self ih x2 y h hr hn=>by
 unfold ld at h
 refine cq 5 [10,11] [I x2,.hs 2 0 [] 1 0 (s_2.map str).length] 35 ?_
 refine oq 51 (I (len s_2)) rfl (bu rfl rfl rfl (qv (f:=str) (xs:=s_2) rfl rfl)) ?_
 refine cq 2 [13] [B (decide (x2<(len s_2)))] 67 ?_
 refine sq h ?_ ?_<;>intro h
 ·refine aq 1 ?_
  refine aq 3 ?_
  refine dK [0,0,3,7,0,0,32,112,240,511] rfl (by decide +kernel) ?_
  refine dk 2 [17,16] [I x2,.hs 2 0 [] 1 0 (s_2.map str).length] ?_
  obtain⟨e3,he3,h⟩:=bS h
  refine dq [2] [] (.hp 2 0 [] 1 (0+Int.toNat x2) 0) rfl (aj rfl rfl rfl (dD (f:=str) (xs:=s_2) rfl rfl rfl he3)) ?_
  refine dq [2] [] (str e3) rfl (aN rfl (fH (path:=[]) rfl rfl rfl aW (cS (f:=str) (xs:=s_2) he3) rfl rfl rfl)) ?_
  refine dk 3 [22,21,20] [I (ai (x2 - 1)),I x2,.hs 2 0 [] 1 0 (s_2.map str).length] ?_
  obtain⟨e4,he4,h⟩:=bS h
  refine dq [2] [] (.hp 2 0 [] 1 (0+Int.toNat (ai (x2 - 1))) 0) rfl (aj rfl rfl rfl (dD (f:=str) (xs:=s_2) rfl rfl rfl he4)) ?_
  refine dq [2] [] (str e4) rfl (aN rfl (fH (path:=[]) rfl rfl rfl aW (cS (f:=str) (xs:=s_2) he4) rfl rfl rfl)) ?_
  refine dk 1 [25] [B (e3==e4)] ?_
  refine de 227 rfl rfl ?_
  refine sq h ?_ ?_<;>intro h
  ·refine cq 4 [26,27] [.hs 2 0 [] 1 0 (s_2.map str).length,I x2] 259 ?_
   obtain⟨s5,hs5,h⟩:=bS h
   refine oq 275 (.hs 2 0 [] 1 (0+Int.toNat x2) (Int.toNat (len s_2) - Int.toNat x2)) rfl (hY rfl rfl rfl rfl (uu (f:=str) (xs:=s_2) rfl rfl rfl rfl (WI rfl) hs5)) ?_
   refine cq 8 [4,5] [.hs 2 0 [] 1 (0+Int.toNat x2) (Int.toNat (len s_2) - Int.toNat x2),I (1)] 307 ?_
   obtain⟨y15,hy15,hy151,hy152⟩:=bL h
   refine bN rfl ?_
   refine rg [0,3,4,5] [308,2] (MV s_2 x2 rfl (x2,1,s_2) _ hy15 (fun r' e st hq=>hr r' (hy151 r' e) st hq) fun u15 hu=>?_)
   replace h:=hy152 u15 hu
   refine cq 4 [54,55] [.hs 2 0 [] 1 0 (u15.2.map str).length,I u15.1] 35 ?_
   obtain⟨s16,hs16,h⟩:=bS h
   refine oq 51 (.hs 2 0 [] 1 (0+Int.toNat u15.1) (Int.toNat (len u15.2) - Int.toNat u15.1)) rfl (hY rfl rfl rfl rfl (uu (f:=str) (xs:=u15.2) rfl rfl rfl rfl (WI rfl) hs16)) ?_
   obtain⟨k17,hk17,h⟩:=bS h
   refine o0 67 rfl rfl (Y6 rfl rfl (acZ (f:=str) (xs:=u15.2) (z0:=[]) rfl rfl rfl rfl (by decide) mK hk17)) ?_
   try rw[show (u15.2.map str).length=(k17.map str).length from Y2 hk17]
   refine cq 5 [57,58] [.hs 2 0 [] 1 0 (k17.map str).length,I u15.1] 99 ?_
   obtain⟨s18,hs18,h⟩:=bS h
   refine oq 115 (.hs 2 0 [] 1 (0+Int.toNat (0)) (Int.toNat u15.1 - Int.toNat (0))) rfl (hY rfl rfl rfl rfl (uu (f:=str) (xs:=k17) rfl rfl rfl rfl rfl hs18)) ?_
   refine cq 2 [2] [.hs 2 0 [] 1 (0+Int.toNat (0)) (Int.toNat u15.1 - Int.toNat (0))] 131 ?_
   obtain⟨p19,hp19,h⟩:=bS h
   exact co rfl (hr _ (ak h) _ ⟨_,fin (vs:=[.hs 2 0 [] 1 (0+Int.toNat (0)) (Int.toNat u15.1 - Int.toNat (0))]) rfl (gp (gc rfl (Tx (path:=[]) (f:=str) (xs:=k17) rfl rfl aW hp19 rfl rB)) eB) rfl (lK rfl (qz rfl) fw),vv fp⟩)
  ·refine aq 1 ?_
   refine cq 6 [3] [I (ai (x2+1))] 275 ?_
   refine cZ ?_
   exact rg [0,3] [276,2] (ih _ _ h hr hn :)
 ·refine aq 1 ?_
  exact rg [0] [68,2] (hn _ (ak h) :) (hk:=hK)
theorem Vt (s_2:List ac)(r:(List ac))(h:Bi s_2=some r):bA wu Tryz.f231 [true] 1 (DM s_2) (DP r):=by
 show Run _ _ (DN s_2 r) [.code Kz] _
 refine rI 61 [(0,.hs 1 0 [] 1 0 (s_2.map str).length)] [(1,some ⟨0,1,s_2.map str⟩)] 2 ?_
 unfold Bi at h
 refine cq 8 [6] [.hs 1 0 [] 1 0 (s_2.map str).length] 34 ?_
 refine oq 50 (I (len s_2)) rfl (bu rfl rfl rfl (qv (f:=str) (xs:=s_2) rfl rfl)) ?_
 refine cq 2 [8] [B (decide ((len s_2)<2))] 66 ?_
 refine sq h ?_ ?_<;>intro h
 ·refine cq 5 [2] [.hs 1 0 [] 1 0 (s_2.map str).length] 98 ?_
  obtain rfl:=Option.some.inj h
  exact co rfl ⟨_,fin (vs:=[.hs 1 0 [] 1 0 (s_2.map str).length]) rfl (gp (gc rfl (dV rfl rfl)) eB) rfl (lK rfl (qz rfl) fw),vv fp⟩
 ·refine aq 1 ?_
  refine cq 6 [3] [I (1)] 82 ?_
  obtain⟨y20,hy20,hy201,hy202⟩:=bJ h
  refine bN rfl ?_
  refine rg [0,3] [83,1] (MU s_2 rfl 1 _ hy20 (fun r' e st hq=>by rw[hy201 r' e] at hq;exact hq) fun u20 hu=>?_)
  replace h:=hy202 u20 hu
  refine cq 5 [2] [.hs 2 0 [] 1 0 (u20.map str).length] 35 ?_
  obtain rfl:=Option.some.inj h
  exact co rfl ⟨_,fin (vs:=[.hs 2 0 [] 1 0 (u20.map str).length]) rfl (gp (gc rfl (dV rfl rfl)) eB) rfl (lK rfl (qz rfl) fw),vv fp⟩
theorem RK {G:Go.Ln.Ground}:aV Tryz.prog G 231 Bj:=gT 1 1 bF ci Tryz.func231 (fun a r h=>Vt a r h)
noncomputable def CL:(List ac)→List V:=oA (rC 1 str)
noncomputable def CM (r:(List ac)):V×List V:=(.usl 1 (r.map str),[.dead])
noncomputable def Ao:Ent:=bm [true] CL CM fun x=>An x
theorem ZL {jI:List ac}{r}(h:An jI=some r):Ao.F (CL jI)=some (CM r):=aI (aJ (iQ bQ)) h
noncomputable def ZN:Code:=aG Tryz.f182
noncomputable def Qj:Env:=b7 Tryz.prog [(230,vM),(231,Bj)]
noncomputable def ZM (x:(List ac))(r:(List ac)):St→Prop:=QF Qj Tryz.f182 [true] (CL x) (CM r)
theorem UO (jI:List ac)(r:(List ac))(h:An jI=some r):bA Qj Tryz.f182 [true] 1 (CL jI) (CM r):=by
 show Run _ _ (ZM jI r) [.code ZN] _
 refine rI 7 [(0,.hs 1 0 [] 1 0 (jI.map str).length)] [(1,some ⟨0,1,jI.map str⟩)] 2 ?_
 unfold An at h
 refine cq 7 [3] [.hs 1 0 [] 1 0 (jI.map str).length] 34 ?_
 obtain⟨r2,hr2,h⟩:=bS h
 obtain⟨g3,h⟩:=gG h
 refine oq 50 (.tup []) rfl (cm rfl rfl (cU rfl rfl rfl (kV (jY rfl (f6 (path:=[]) rfl rfl aW rfl)) dM) (XC hr2) (.inr rfl) (jg rfl rfl rfl rfl ew) rfl rfl rfl)) ?_
 try rw[iu (f:=str) (xs:=jI) (ys:=r2) g3]
 refine cq 4 [5] [.hs 1 0 [] 1 0 (r2.map str).length] 66 ?_
 obtain⟨r4,hr4,h⟩:=bS h
 refine oq 82 (.hs 66 0 [] 1 0 (r4.map str).length) rfl (cm rfl rfl (cU rfl rfl rfl (kV (jY rfl (f6 (path:=[]) rfl rfl aW rfl)) dM) (aaJ hr4) (.inr rfl) (jg rfl rfl rfl nA ew) rfl rfl rfl)) ?_
 refine cq 2 [2] [.hs 66 0 [] 1 0 (r4.map str).length] 98 ?_
 obtain rfl:=Option.some.inj h
 exact co rfl ⟨_,fin (vs:=[.hs 66 0 [] 1 0 (r4.map str).length]) rfl (gp (gc rfl (dV rfl rfl)) eB) rfl (lK rfl (qz rfl) fw),vv fp⟩
theorem Qk {G:Go.Ln.Ground}:aV Tryz.prog G 182 Ao:=gT 1 1 (aM NR (aM RK bF)) ci Tryz.func182 (fun a r h=>UO a r h)
noncomputable def JF:Contract→List V:=oA aX
noncomputable def JG (r:(List ac)):V×List V:=(.usl 1 (r.map str),[])
noncomputable def yh:Ent:=bm [false] JF JG fun x=>zK x
theorem XV {c_1:Contract}{r}(h:zK c_1=some r):yh.F (JF c_1)=some (JG r):=aI (aJ bn) h
noncomputable def XX:Code:=aG Tryz.f137
noncomputable def Pm:Env:=b7 Tryz.prog [(195,Hq),(182,Ao)]
noncomputable def XW (x:Contract)(r:(List ac)):St→Prop:=QF Pm Tryz.f137 [false] (JF x) (JG r)
theorem Pn (c_1:Contract):cj Pm 0 (XW c_1) (cL (cL (cR (cL (cR (cR XX)))))) 0 (pK c_1) (fun u=>(sT 25 [(3,.hs 1 0 [] 1 0 (u.map str).length)] [⟨0,1,u.map str⟩] 2)) fun x2=>(sT 25 [(3,.hs 1 0 [] 1 0 (x2.2.map str).length),(8,.isl false (c_1.Clauses.map au)),(9,I (len c_1.Clauses)),(10,I x2.1)] [⟨0,1,x2.2.map str⟩] 2):=ef (FZ c_1) fun {Q K} hK self ih x2 y h hr hn=>by
 unfold mE at h
 refine cq 5 [11] [B (decide (x2.1<(len c_1.Clauses)))] 18 ?_
 refine sq h ?_ ?_<;>intro h
 ·refine aq 1 ?_
  refine aq 4 ?_
  obtain⟨e3,he3,h⟩:=bS h
  refine oq 34 (.iptr (az e3) 0) rfl (aj rfl rfl rfl (bd rfl rfl rfl rfl he3)) ?_
  refine ck 2 [5,13] [] [50] [] [.hp 50 0 [] 12 0 0,az e3] [some ⟨0,12,[.agg [str ([]),I (0),I (0),str ([]),I (0),I (0),I (0),str ([]),I (0),.isl true [],I (0),str ([])]]⟩] 66 (by kernel_rfl) ?_
  refine fI 50 [.agg [str ([]),I (0),I (0),str ([]),I (0),I (0),I (0),str ([]),I (0),.usl 4 (([]).map aC),I (0),str ([])]] rfl rfl (aL (gU (aL (.refl _) (aL (.refl _) (aL (.refl _) (aL (.refl _) (aL (.refl _) (aL (.refl _) (aL (.refl _) (aL (.refl _) (aL (.refl _) (aL (.nil _) (aL (.refl _) (aL (.refl _) eL))))))))))))) eL) ?_
  refine ck 2 [] [] [50] [] [] [some ⟨2,12,[az e3]⟩] 82 (by kernel_rfl) ?_
  refine dK [0,1,0,0,8,24,60,127,255] rfl (by decide +kernel) ?_
  refine dq [50] [] (.hp 50 0 [] 12 0 6) rfl (an rfl rfl rfl) ?_
  refine dq [50] [] (ao e3.When) rfl (aN rfl rfl) ?_
  refine dk 1 [16] [.hs 1 0 [] 1 0 (x2.2.map str).length] ?_
  refine dq [50] [] (.hp 50 0 [] 12 0 3) rfl (an rfl rfl rfl) ?_
  refine dq [50] [] (str e3.Action) rfl (aN rfl rfl) ?_
  refine dq [] [] (.hs 162 0 [] 1 0 1) rfl (fa rfl (mu (f:=I) (xs:=[]) (z:=str ([])) (es:=[str e3.Action]) (ws:=[str e3.Action]) rfl rfl rfl (by decide) rfl (ed rfl) rfl)) ?_
  obtain⟨a4,ha4,h⟩:=bS h
  refine dq [1,162] [1] (.hs 178 0 [] 1 0 (a4.map str).length) rfl (kf rfl rfl rfl rfl rfl (nT (path:=[]) (f:=str) (xs:=x2.2) (ys:=[e3.Action]) rfl rfl (uz rfl rfl rfl) rfl rfl rfl aW rfl (by decide) lP ha4 rfl rB)) ?_ (GY rfl (F8 (path:=[]) (f:=str) (xs:=[e3.Action]) rfl rfl aW mK rfl))
  obtain⟨r5,hr5,h⟩:=bS h
  refine dq [178] [178] (.hs 194 0 [] 1 0 (r5.map str).length) rfl (cm rfl rfl (cU rfl rfl rfl (bC (cg rfl) (kV (jY rfl (f6 (path:=[]) rfl rfl aW rfl)) dM)) (XP hr5) (.inr rfl) (jg rfl rfl rfl nA ew) rfl rfl rfl)) ?_ (dU rfl rfl rfl rfl (bC (cg rfl) (kV (jY rfl (f6 (path:=[]) rfl rfl aW rfl)) dM)) (XP hr5) (.inr rfl) rfl)
  refine dk 1 [3] [.hs 194 0 [] 1 0 (r5.map str).length] ?_
  refine de 226 rfl rfl ?_
  refine cq 5 [10] [I (ai (x2.1+1))] 258 ?_
  refine cZ ?_
  exact rf [3,8,9,10] [194] (ih _ _ h hr hn :)
 ·refine aq 1 ?_
  exact rf [3] [1] (hn _ (ak h) :) (hk:=hK)
theorem YI (c_1:Contract)(r:(List ac))(h:zK c_1=some r):bA Pm Tryz.f137 [false] 0 (JF c_1) (JG r):=by
 show Run _ _ (XW c_1 r) [.code XX] _
 refine rI 25 [(0,aa c_1)] [] 1 ?_
 unfold zK at h
 refine ck 7 [1] [] [1] [] [.hp 1 0 [] 2 0 0] [some ⟨0,2,[aa c_1]⟩] 33 (by kernel_rfl) ?_
 refine oq 49 (.hs 33 0 [] 1 0 0) rfl (fa rfl (mu (f:=I) (xs:=[]) (z:=str ([])) (es:=[]) (ws:=[]) rfl rfl rfl (by decide) rfl (ed rfl) rfl)) ?_
 refine cq 7 [3,8] [.hs 33 0 [] 1 0 0,.isl false (c_1.Clauses.map au)] 97 ?_
 refine oq 113 (I (len c_1.Clauses)) rfl (bu rfl rfl rfl (bI rfl)) ?_
 refine cq 3 [10] [I (0)] 129 ?_
 obtain⟨y6,hy6,hy61,hy62⟩:=bJ h
 refine bN rfl ?_
 refine rf [3,8,9,10] [33] (Pn c_1 rfl (0,[]) _ hy6 (fun r' e st hq=>by rw[hy61 r' e] at hq;exact hq) fun u6 hu=>?_)
 replace h:=hy62 u6 hu
 refine cq 3 [23] [.hs 1 0 [] 1 0 (u6.map str).length] 18 ?_
 obtain⟨r7,hr7,h⟩:=bS h
 refine oq 34 (.hs 18 0 [] 1 0 (r7.map str).length) rfl (cm rfl rfl (cU rfl rfl rfl (kV (jY rfl (f6 (path:=[]) rfl rfl aW rfl)) dM) (ZL hr7) (.inr rfl) (jg rfl rfl rfl nA ew) rfl rfl rfl)) ?_
 refine cq 2 [2] [.hs 18 0 [] 1 0 (r7.map str).length] 50 ?_
 obtain rfl:=Option.some.inj h
 exact co rfl ⟨_,fin (vs:=[.hs 18 0 [] 1 0 (r7.map str).length]) rfl (gp (gc rfl (dV rfl rfl)) eB) rfl (dj fw),fp⟩
theorem Lh {G:Go.Ln.Ground}:aV Tryz.prog G 137 yh:=gT 1 0 (aM Wo (aM Qk bF)) ci Tryz.func137 (fun a r h=>YI a r h)
noncomputable def Jf:Contract→List V:=oA aX
noncomputable def Jh (r:Bool):V×List V:=(B r,[])
noncomputable def Hf:Ent:=bm [false] Jf Jh fun x=>KI x
theorem acm {c_1:Contract}{r}(h:KI c_1=some r):Hf.F (Jf c_1)=some (Jh r):=aI (aJ bn) h
noncomputable def Ji:Code:=aG Tryz.f67
noncomputable def Jg:Env:=b7 Tryz.prog [(135,Hr),(136,Hx),(137,yh),(110,jf)]
noncomputable def El (x:Contract)(r:Bool):St→Prop:=QF Jg Tryz.f67 [false] (Jf x) (Jh r)
theorem O3 (c_1:Contract):cj Jg 0 (El c_1) (cL (cL (cR (cL (cR (cR Ji)))))) 0 (nL c_1) (fun u=>(sT 30 [(1,.hp 1 0 [] 2 0 0)] [⟨0,2,[aa c_1]⟩] 2)) fun x4=>(sT 30 [(1,.hp 1 0 [] 2 0 0),(17,I (len c_1.Clauses)),(18,I x4)] [⟨0,2,[aa c_1]⟩] 2):=ef (Em c_1) fun {Q K} hK self ih x4 y h hr hn=>by
 unfold mB at h
 refine cq 5 [19] [B (decide (x4<(len c_1.Clauses)))] 18 ?_
 refine sq h ?_ ?_<;>intro h
 ·refine aq 1 ?_
  refine cq 11 [21,22] [aa c_1,I x4] 82 ?_
  obtain⟨r5,hr5,h⟩:=bS h
  refine oq 98 (B r5) rfl (cP (acH hr5)) ?_
  refine cq 2 [24] [B (!r5)] 114 ?_
  refine sq h ?_ ?_<;>intro h
  ·refine cq 4 [2] [B false] 130 ?_
   exact co rfl (hr _ (ak h) _ (qp [B false]))
  ·refine aq 1 ?_
   refine cq 5 [18] [I (ai (x4+1))] 146 ?_
   refine cZ ?_
   exact rf [1,17,18] [1] (ih _ _ h hr hn :)
 ·refine aq 1 ?_
  exact rf [1] [1] (hn _ (ak h) :) (hk:=hK)
end
end Go.Ln
