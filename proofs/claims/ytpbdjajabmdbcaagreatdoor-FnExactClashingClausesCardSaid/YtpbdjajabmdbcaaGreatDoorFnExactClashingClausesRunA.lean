/-
  The walks.
-/
import Derived.Test.YtpbdjajabmdbcaaGreatDoorFnExactClashingClausesFun
import Derived.Test.YtpbdjajabmdbcaaGreatDoorChecked
set_option maxHeartbeats 4000000
set_option linter.unusedVariables false
set_option linter.unusedSimpArgs false
set_option maxRecDepth 100000
namespace Go.Ln
open Go Go.Proofs
noncomputable abbrev cY:=Checked.mixed Tryz.checked
abbrev cO:=Go.Ln.Ground
abbrev cM (G:cO):=fu Tryz.prog G
noncomputable abbrev cX:=QD Tryz.prog
def BO:((List ac)×Int)→List V:=cA (ln str) (oA I)
def BP (r:Int):V×List V:=(I r,[])
noncomputable def zF :=bC [false,false] BO BP fun x=>zE x.1 x.2
theorem V3 {a_1:List ac}{az:Int}{r}(h:zE a_1 az=some r):zF.F (BO (a_1,az))=some (BP r):=aQ (bB (d9 bI) (aR cu)) h
noncomputable def OC :=aK Tryz.f26
noncomputable def Ia :=cX []
def OB (x:(List ac)×Int)(r:Int):St→Prop:=QF Ia Tryz.f26 [false,false] (BO x) (BP r)
theorem KA (a_1:List ac)(az:Int):cD Ia 0 (OB (a_1,az)) (cL (cL (cR (cL (cR (cR (cR OC))))))) 0 (sC a_1 az) (fun u=>(sT 28 [(1,I u)] [] 1)) fun x3=>(sT 28 [(0,.isl false (a_1.map str)),(1,I x3.1),(5,I x3.2)] [] 1):=ey (xV a_1 az) fun {Q K} hK self ih x3 y h hr hn=>by
 unfold mD at h
 refine cq 5 [12,13] [I x3.2,.isl false (a_1.map str)] 33 ?_
 refine oq 49 (I (len a_1)) rfl (bG rfl rfl rfl (cH rfl)) ?_
 refine cq 2 [15] [B (decide (x3.2<(len a_1)))] 65 ?_
 refine sq h ?_ ?_<;>intro h
 ·refine aq 1 ?_
  refine cq 7 [18,19,20] [I x3.1,.isl false (a_1.map str),I x3.2] 113 ?_
  obtain⟨e4,he4,h⟩:=bS h
  refine oq 129 (.iptr (str e4) 0) rfl (ao rfl rfl rfl (bH rfl rfl rfl rfl he4)) ?_
  refine cq 10 [1,26] [I (aj (x3.1 - (len e4))),B (decide ((aj (x3.1 - (len e4)))<0))] 225 ?_
  refine sq h ?_ ?_<;>intro h
  ·refine cq 4 [4] [I (-1)] 241 ?_
   exact bR rfl (hr _ (ap h) _ (qp [I (-1)]))
  ·refine aq 1 ?_
   refine cq 6 [5] [I (aj (x3.2+1))] 273 ?_
   refine cZ ?_
   exact rf [0,1,5] [] (ih _ _ h hr hn :)
 ·refine aq 1 ?_
  exact rf [1] [] (hn _ (ap h) :) (hk:=hK)
theorem Rz (a_1:List ac)(az:Int)(r:Int)(h:zE a_1 az=some r):bT Ia Tryz.f26 [false,false] 0 (BO (a_1,az)) (BP r):=by
 show Run _ _ (OB (a_1,az) r) [.code OC] _
 refine rI 28 [(0,.isl false (a_1.map str)),(1,I az)] [] 1 ?_
 unfold zE at h
 refine cq 8 [6,7] [I az,.isl false (a_1.map str)] 49 ?_
 refine oq 65 (I (len a_1)) rfl (bG rfl rfl rfl (cH rfl)) ?_
 refine cq 9 [1,11] [I (aj (az - (len a_1))),B (decide ((aj (az - (len a_1)))<0))] 129 ?_
 refine sq h ?_ ?_<;>intro h
 ·refine cq 4 [4] [I (-1)] 145 ?_
  obtain rfl:=sI h
  exact rP [I (-1)]
 ·refine aq 1 ?_
  refine cq 6 [5] [I (0)] 145 ?_
  obtain⟨y5,hy5,hy51,hy52⟩:=bJ h
  refine bZ rfl ?_
  refine rf [0,1,5] [] (KA a_1 az rfl ((aj (az - (len a_1))),0) _ hy5 (fun r' e st hq=>by rw[hy51 r' e] at hq;exact hq) fun u5 hu=>?_)
  replace h:=hy52 u5 hu
  refine cq 5 [4] [I u5] 33 ?_
  obtain rfl:=sI h
  exact rP [I u5]
theorem OD {G:cO}:cM G 26 zF:=gT 2 0 bX cY Tryz.func26 (fun a r h=>Rz a.1 a.2 r h)
def ve:(Condition×Int)→List V:=cA aE (oA I)
def vf (r:Int):V×List V:=(I r,[])
noncomputable def qV (bb:(Condition×Int)→Option Int):Ent:=bC [false,false] ve vf bb
theorem Lr (bb:(Condition×Int)→Option Int){x}{r}(h:bb x=some r):(qV bb).F (ve x)=some (vf r):=aQ (bB bf (aR cu)) h
def BK:((List Condition)×Int)→List V:=cA (ln au) (oA I)
def BL (r:Int):V×List V:=(I r,[])
noncomputable def zB (bb:(Condition×Int)→Option Int):Ent:=bC [false,false] BK BL fun x=>vg bb x.1 x.2
theorem VZ (bb:(Condition×Int)→Option Int){a_1:List Condition}{az:Int}{r}(h:vg bb a_1 az=some r):(zB bb).F (BK (a_1,az))=some (BL r):=aQ (bB (d9 eW) (aR cu)) h
noncomputable def Ox :=aK Tryz.f105
noncomputable def H9 (bb:(Condition×Int)→Option Int):Env:=cX [(82,(qV bb))]
def Ow (bb:(Condition×Int)→Option Int)(x:(List Condition)×Int)(r:Int):St→Prop:=QF (H9 bb) Tryz.f105 [false,false] (BK x) (BL r)
theorem Kz (bb:(Condition×Int)→Option Int)(a_1:List Condition)(az:Int):cD (H9 bb) 0 (Ow bb (a_1,az)) (cL (cL (cR (cL (cR (cR (cR Ox))))))) 0 (pY bb a_1 az) (fun u=>(sT 27 [(1,I u)] [] 1)) fun x3=>(sT 27 [(0,.isl false (a_1.map au)),(1,I x3.1),(5,I x3.2)] [] 1):=ey (xU bb a_1 az) fun {Q K} hK self ih x3 y h hr hn=>by
 unfold kE at h
 refine cq 5 [12,13] [I x3.2,.isl false (a_1.map au)] 33 ?_
 refine oq 49 (I (len a_1)) rfl (bG rfl rfl rfl (cH rfl)) ?_
 refine cq 2 [15] [B (decide (x3.2<(len a_1)))] 65 ?_
 refine sq h ?_ ?_<;>intro h
 ·refine aq 1 ?_
  refine cq 6 [18,19] [.isl false (a_1.map au),I x3.2] 97 ?_
  obtain⟨e4,he4,h⟩:=bS h
  refine oq 113 (.iptr (aE e4) 0) rfl (ao rfl rfl rfl (bH rfl rfl (bd e4) rfl he4)) ?_
  refine cq 2 [21,22] [aE e4,I x3.1] 145 ?_
  obtain⟨r5,hr5,h⟩:=bS h
  refine oq 161 (I r5) rfl (aW rfl rfl (bv rfl rfl rfl (bm (bK rfl) (bm (bK rfl) cy)) (Lr bb hr5) (.inr rfl) cI rfl rfl rfl)) ?_
  refine cq 7 [1,25] [I r5,B (decide (r5<0))] 209 ?_
  refine sq h ?_ ?_<;>intro h
  ·refine cq 4 [4] [I (-1)] 225 ?_
   exact bR rfl (hr _ (ap h) _ (qp [I (-1)]))
  ·refine aq 1 ?_
   refine cq 6 [5] [I (aj (x3.2+1))] 257 ?_
   refine cZ ?_
   exact rf [0,1,5] [] (ih _ _ h hr hn :)
 ·refine aq 1 ?_
  exact rf [1] [] (hn _ (ap h) :) (hk:=hK)
theorem Rx (bb:(Condition×Int)→Option Int)(a_1:List Condition)(az:Int)(r:Int)(h:vg bb a_1 az=some r):bT (H9 bb) Tryz.f105 [false,false] 0 (BK (a_1,az)) (BL r):=by
 show Run _ _ (Ow bb (a_1,az) r) [.code Ox] _
 refine rI 27 [(0,.isl false (a_1.map au)),(1,I az)] [] 1 ?_
 unfold vg at h
 refine cq 8 [6,7] [I az,.isl false (a_1.map au)] 49 ?_
 refine oq 65 (I (len a_1)) rfl (bG rfl rfl rfl (cH rfl)) ?_
 refine cq 9 [1,11] [I (aj (az - (len a_1))),B (decide ((aj (az - (len a_1)))<0))] 129 ?_
 refine sq h ?_ ?_<;>intro h
 ·refine cq 4 [4] [I (-1)] 145 ?_
  obtain rfl:=sI h
  exact rP [I (-1)]
 ·refine aq 1 ?_
  refine cq 6 [5] [I (0)] 145 ?_
  obtain⟨y6,hy6,hy61,hy62⟩:=bJ h
  refine bZ rfl ?_
  refine rf [0,1,5] [] (Kz bb a_1 az rfl ((aj (az - (len a_1))),0) _ hy6 (fun r' e st hq=>by rw[hy61 r' e] at hq;exact hq) fun u6 hu=>?_)
  replace h:=hy62 u6 hu
  refine cq 5 [4] [I u6] 33 ?_
  obtain rfl:=sI h
  exact rP [I u6]
theorem Oy {G:cO}(bb:(Condition×Int)→Option Int)(Jx:cM G 82 (qV bb)):cM G 105 (zB bb):=gT 2 0 (aU Jx bX) cY Tryz.func105 (fun a r h=>Rx bb a.1 a.2 r h)
noncomputable def zA :=qV (aA oW)
theorem VW {a_1:Condition}{az:Int}{r}(h:vd a_1 az=some r):zA.F (ve (a_1,az))=some (vf r):=Lr (aA oW) h
noncomputable def VY :=aK Tryz.f82
noncomputable def Ou (bb:(Condition×Int)→Option Int):Env:=cX [(105,(zB bb))]
def VX (bb:(Condition×Int)→Option Int)(x:Condition×Int)(r:Int):St→Prop:=QF (Ou bb) Tryz.f82 [false,false] (ve x) (vf r)
theorem Rv (bb:(Condition×Int)→Option Int)(a_1:Condition)(az:Int)(r:Int)(h:sB bb a_1 az=some r):bT (Ou bb) Tryz.f82 [false,false] 0 (ve (a_1,az)) (vf r):=by
 show Run _ _ (VX bb (a_1,az) r) [.code VY] _
 refine rI 19 [(0,aE a_1),(1,I az)] [] 1 ?_
 unfold sB at h
 refine ck 20 [1,2,11] [] [1] [] [I (aj (az - (len a_1.Name))),.hp 1 0 [] 4 0 0,B (decide ((aj (az - (len a_1.Name)))<0))] [some ⟨0,4,[aE a_1]⟩] 161 (by kernel_rfl) ?_
 refine sq h ?_ ?_<;>intro h
 ·refine cq 4 [4] [I (-1)] 177 ?_
  obtain rfl:=sI h
  exact rP [I (-1)]
 ·refine aq 1 ?_
  refine cq 5 [13,14] [.isl false (a_1.Parts.map au),I (aj (az - (len a_1.Name)))] 209 ?_
  obtain⟨r3,hr3,h⟩:=bS h
  refine oq 225 (I r3) rfl (aW rfl rfl (bv rfl rfl rfl (bm (bK rfl) (bm (bK rfl) cy)) (VZ bb hr3) (.inr rfl) cI rfl rfl rfl)) ?_
  refine cq 8 [1,17] [I r3,B (decide (r3<0))] 273 ?_
  refine sq h ?_ ?_<;>intro h
  ·refine cq 4 [4] [I (-1)] 289 ?_
   obtain rfl:=sI h
   exact rP [I (-1)]
  ·refine aq 1 ?_
   refine cq 5 [4] [I r3] 305 ?_
   obtain rfl:=sI h
   exact rP [I r3]
theorem Ov {G:cO}:cM G 82 zA:=gx fun bb Jx=>gT 2 0 (aU (Oy bb Jx) bX) cY Tryz.func82 (fun a r h=>Rv bb a.1 a.2 r h)
def BF:(Clause×Int)→List V:=cA ar (oA I)
def BG (r:Int):V×List V:=(I r,[])
noncomputable def zw :=bC [false,false] BF BG fun x=>tI x.1 x.2
theorem VS {a_1:Clause}{az:Int}{r}(h:tI a_1 az=some r):zw.F (BF (a_1,az))=some (BG r):=aQ (bB cV (aR cu)) h
noncomputable def VU :=aK Tryz.f54
noncomputable def Ol :=cX [(82,zA)]
def VT (x:Clause×Int)(r:Int):St→Prop:=QF Ol Tryz.f54 [false,false] (BF x) (BG r)
theorem Rs (a_1:Clause)(az:Int)(r:Int)(h:tI a_1 az=some r):bT Ol Tryz.f54 [false,false] 0 (BF (a_1,az)) (BG r):=by
 show Run _ _ (VT (a_1,az) r) [.code VU] _
 refine rI 33 [(0,ar a_1),(1,I az)] [] 1 ?_
 unfold tI at h
 refine ck 20 [1,2,11] [] [1] [] [I (aj (az - (len a_1.Id))),.hp 1 0 [] 12 0 0,B (decide ((aj (az - (len a_1.Id)))<0))] [some ⟨0,12,[ar a_1]⟩] 161 (by kernel_rfl) ?_
 refine sq h ?_ ?_<;>intro h
 ·refine cq 4 [4] [I (-1)] 177 ?_
  obtain rfl:=sI h
  exact rP [I (-1)]
 ·refine aq 1 ?_
  refine cq 15 [1,18] [I (aj ((aj (az - (len a_1.Id))) - (len a_1.Action))),B (decide ((aj ((aj (az - (len a_1.Id))) - (len a_1.Action)))<0))] 289 ?_
  refine sq h ?_ ?_<;>intro h
  ·refine cq 4 [4] [I (-1)] 305 ?_
   obtain rfl:=sI h
   exact rP [I (-1)]
  ·refine aq 1 ?_
   refine cq 5 [20,21] [aE a_1.When,I (aj ((aj (az - (len a_1.Id))) - (len a_1.Action)))] 337 ?_
   obtain⟨r3,hr3,h⟩:=bS h
   refine oq 353 (I r3) rfl (cP (VW hr3)) ?_
   refine cq 8 [1,24] [I r3,B (decide (r3<0))] 401 ?_
   refine sq h ?_ ?_<;>intro h
   ·refine cq 4 [4] [I (-1)] 417 ?_
    obtain rfl:=sI h
    exact rP [I (-1)]
   ·refine aq 1 ?_
    refine cq 15 [1,31] [I (aj (r3 - (len a_1.Repair))),B (decide ((aj (r3 - (len a_1.Repair)))<0))] 529 ?_
    refine sq h ?_ ?_<;>intro h
    ·refine cq 4 [4] [I (-1)] 545 ?_
     obtain rfl:=sI h
     exact rP [I (-1)]
    ·refine aq 1 ?_
     refine cq 5 [4] [I (aj (r3 - (len a_1.Repair)))] 561 ?_
     obtain rfl:=sI h
     exact rP [I (aj (r3 - (len a_1.Repair)))]
theorem Om {G:cO}:cM G 54 zw:=gT 2 0 (aU Ov bX) cY Tryz.func54 (fun a r h=>Rs a.1 a.2 r h)
def BH:((List Clause)×Int)→List V:=cA (ln ar) (oA I)
def BI (r:Int):V×List V:=(I r,[])
noncomputable def zy :=bC [false,false] BH BI fun x=>zx x.1 x.2
theorem VV {a_1:List Clause}{az:Int}{r}(h:zx a_1 az=some r):zy.F (BH (a_1,az))=some (BI r):=aQ (bB (d9 cV) (aR cu)) h
noncomputable def Oq :=aK Tryz.f27
noncomputable def H8 :=cX [(54,zw)]
def Oo (x:(List Clause)×Int)(r:Int):St→Prop:=QF H8 Tryz.f27 [false,false] (BH x) (BI r)
theorem Ky (a_1:List Clause)(az:Int):cD H8 0 (Oo (a_1,az)) (cL (cL (cR (cL (cR (cR (cR Oq))))))) 0 (sA a_1 az) (fun u=>(sT 27 [(1,I u)] [] 1)) fun x3=>(sT 27 [(0,.isl false (a_1.map ar)),(1,I x3.1),(5,I x3.2)] [] 1):=ey (xT a_1 az) fun {Q K} hK self ih x3 y h hr hn=>by
 unfold mC at h
 refine cq 5 [12,13] [I x3.2,.isl false (a_1.map ar)] 33 ?_
 refine oq 49 (I (len a_1)) rfl (bG rfl rfl rfl (cH rfl)) ?_
 refine cq 2 [15] [B (decide (x3.2<(len a_1)))] 65 ?_
 refine sq h ?_ ?_<;>intro h
 ·refine aq 1 ?_
  refine cq 6 [18,19] [.isl false (a_1.map ar),I x3.2] 97 ?_
  obtain⟨e4,he4,h⟩:=bS h
  refine oq 113 (.iptr (ar e4) 0) rfl (ao rfl rfl rfl (bH rfl rfl rfl rfl he4)) ?_
  refine cq 2 [21,22] [ar e4,I x3.1] 145 ?_
  obtain⟨r5,hr5,h⟩:=bS h
  refine oq 161 (I r5) rfl (cP (VS hr5)) ?_
  refine cq 7 [1,25] [I r5,B (decide (r5<0))] 209 ?_
  refine sq h ?_ ?_<;>intro h
  ·refine cq 4 [4] [I (-1)] 225 ?_
   exact bR rfl (hr _ (ap h) _ (qp [I (-1)]))
  ·refine aq 1 ?_
   refine cq 6 [5] [I (aj (x3.2+1))] 257 ?_
   refine cZ ?_
   exact rf [0,1,5] [] (ih _ _ h hr hn :)
 ·refine aq 1 ?_
  exact rf [1] [] (hn _ (ap h) :) (hk:=hK)
theorem Rt (a_1:List Clause)(az:Int)(r:Int)(h:zx a_1 az=some r):bT H8 Tryz.f27 [false,false] 0 (BH (a_1,az)) (BI r):=by
 show Run _ _ (Oo (a_1,az) r) [.code Oq] _
 refine rI 27 [(0,.isl false (a_1.map ar)),(1,I az)] [] 1 ?_
 unfold zx at h
 refine cq 8 [6,7] [I az,.isl false (a_1.map ar)] 49 ?_
 refine oq 65 (I (len a_1)) rfl (bG rfl rfl rfl (cH rfl)) ?_
 refine cq 9 [1,11] [I (aj (az - (len a_1))),B (decide ((aj (az - (len a_1)))<0))] 129 ?_
 refine sq h ?_ ?_<;>intro h
 ·refine cq 4 [4] [I (-1)] 145 ?_
  obtain rfl:=sI h
  exact rP [I (-1)]
 ·refine aq 1 ?_
  refine cq 6 [5] [I (0)] 145 ?_
  obtain⟨y6,hy6,hy61,hy62⟩:=bJ h
  refine bZ rfl ?_
  refine rf [0,1,5] [] (Ky a_1 az rfl ((aj (az - (len a_1))),0) _ hy6 (fun r' e st hq=>by rw[hy61 r' e] at hq;exact hq) fun u6 hu=>?_)
  replace h:=hy62 u6 hu
  refine cq 5 [4] [I u6] 33 ?_
  obtain rfl:=sI h
  exact rP [I u6]
theorem Ot {G:cO}:cM G 27 zy:=gT 2 0 (aU Om bX) cY Tryz.func27 (fun a r h=>Rt a.1 a.2 r h)
def BM:(Contract×Int)→List V:=cA aO (oA I)
def BN (r:Int):V×List V:=(I r,[])
noncomputable def zD :=bC [false,false] BM BN fun x=>zC x.1 x.2
theorem V0 {a_1:Contract}{az:Int}{r}(h:zC a_1 az=some r):zD.F (BM (a_1,az))=some (BN r):=aQ (bB bN (aR cu)) h
noncomputable def V2 :=aK Tryz.f6
noncomputable def Oz :=cX [(26,zF),(27,zy)]
def V1 (x:Contract×Int)(r:Int):St→Prop:=QF Oz Tryz.f6 [false,false] (BM x) (BN r)
theorem Ry (a_1:Contract)(az:Int)(r:Int)(h:zC a_1 az=some r):bT Oz Tryz.f6 [false,false] 0 (BM (a_1,az)) (BN r):=by
 show Run _ _ (V1 (a_1,az) r) [.code V2] _
 refine rI 18 [(0,aO a_1),(1,I az)] [] 1 ?_
 unfold zC at h
 refine ck 10 [2,6,7] [] [1] [] [.hp 1 0 [] 2 0 0,.isl false (a_1.Parties.map str),I az] [some ⟨0,2,[aO a_1]⟩] 81 (by kernel_rfl) ?_
 obtain⟨r3,hr3,h⟩:=bS h
 refine oq 97 (I r3) rfl (cP (V3 hr3)) ?_
 refine cq 8 [1,10] [I r3,B (decide (r3<0))] 145 ?_
 refine sq h ?_ ?_<;>intro h
 ·refine cq 4 [4] [I (-1)] 161 ?_
  obtain rfl:=sI h
  exact rP [I (-1)]
 ·refine aq 1 ?_
  refine cq 5 [12,13] [.isl false (a_1.Clauses.map ar),I r3] 193 ?_
  obtain⟨r4,hr4,h⟩:=bS h
  refine oq 209 (I r4) rfl (cP (VV hr4)) ?_
  refine cq 8 [1,16] [I r4,B (decide (r4<0))] 257 ?_
  refine sq h ?_ ?_<;>intro h
  ·refine cq 4 [4] [I (-1)] 273 ?_
   obtain rfl:=sI h
   exact rP [I (-1)]
  ·refine aq 1 ?_
   refine cq 5 [4] [I r4] 289 ?_
   obtain rfl:=sI h
   exact rP [I r4]
theorem OA {G:cO}:cM G 6 zD:=gT 2 0 (aU OD (aU Ot bX)) cY Tryz.func6 (fun a r h=>Ry a.1 a.2 r h)
def BZ:(List ac)→List V:=oA (ln str)
def B0 (r:(List ac)):V×List V:=(.usl 1 (r.map str),[])
noncomputable def zO :=bC [false] BZ B0 fun x=>zN x
theorem Wf {a_1:List ac}{r}(h:zN a_1=some r):zO.F (BZ a_1)=some (B0 r):=aQ (aR (d9 bI)) h
noncomputable def OU :=aK Tryz.f32
noncomputable def Ie :=cX []
def OT (x:(List ac))(r:(List ac)):St→Prop:=QF Ie Tryz.f32 [false] (BZ x) (B0 r)
theorem KD (a_1:List ac):cD Ie 0 (OT a_1) (cL (cL (cR (cL (cR (cR OU)))))) 0 (sF a_1) (fun u=>(sT 22 [(3,.hs 1 0 [] 1 0 (u.map str).length)] [⟨0,1,u.map str⟩] 2)) fun x3=>(sT 22 [(0,.isl false (a_1.map str)),(3,.hs 1 0 [] 1 0 (x3.2.map str).length),(4,I x3.1)] [⟨0,1,x3.2.map str⟩] 2):=ey (xY a_1) fun {Q K} hK self ih x3 y h hr hn=>by
 unfold mF at h
 refine cq 5 [8,9] [I x3.1,.isl false (a_1.map str)] 34 ?_
 refine oq 50 (I (len a_1)) rfl (bG rfl rfl rfl (cH rfl)) ?_
 refine cq 2 [11] [B (decide (x3.1<(len a_1)))] 66 ?_
 refine sq h ?_ ?_<;>intro h
 ·refine aq 1 ?_
  refine cq 7 [14,15,16,17] [.hs 1 0 [] 1 0 (x3.2.map str).length,I x3.1,.isl false (a_1.map str),I x3.1] 130 ?_
  obtain⟨e4,he4,h⟩:=bS h
  refine oq 146 (.iptr (str e4) 0) rfl (ao rfl rfl rfl (bH rfl rfl rfl rfl he4)) ?_
  refine cq 1 [19] [str e4] 162 ?_
  obtain⟨e5,he5,h⟩:=bS h
  refine oq 178 (.hp 1 0 [] 1 (0+Int.toNat x3.1) 0) rfl (ao rfl rfl rfl (dJ (f:=str) (xs:=x3.2) rfl rfl rfl he5)) ?_
  refine o0 194 rfl rfl (fw rfl rfl (eq (path:=[]) (pl:=true) (e':=str e4) (es2':=(cS x3.2 x3.1 e4).map str) rfl (bq rfl) rfl rfl rfl aG (cT (f:=str) (xs:=x3.2) he5) rfl rfl rfl (jz (f:=str) (xs:=x3.2) (y:=e4)) d7 0 rfl)) ?_
  try rw[←gZ (f:=str) (xs:=x3.2) (i:=x3.1) (z:=e4)]
  refine cq 7 [4] [I (aj (x3.1+1))] 242 ?_
  refine cZ ?_
  exact rf [0,3,4] [1] (ih _ _ h hr hn :)
 ·refine aq 1 ?_
  exact rf [3] [1] (hn _ (ap h) :) (hk:=hK)
theorem RG (a_1:List ac)(r:(List ac))(h:zN a_1=some r):bT Ie Tryz.f32 [false] 0 (BZ a_1) (B0 r):=by
 show Run _ _ (OT a_1 r) [.code OU] _
 refine rI 22 [(0,.isl false (a_1.map str))] [] 1 ?_
 unfold zN at h
 refine cq 7 [5] [.isl false (a_1.map str)] 33 ?_
 refine oq 49 (I (len a_1)) rfl (bG rfl rfl rfl (cH rfl)) ?_
 obtain⟨m2,hm2,h⟩:=bS h
 refine oq 65 (.hs 49 0 [] 1 0 (m2.map str).length) rfl (oO rfl rfl (QG (f:=str) rfl rfl rfl (by decide) hm2 rfl)) ?_
 refine cq 8 [3,4] [.hs 49 0 [] 1 0 (m2.map str).length,I (0)] 97 ?_
 obtain⟨y6,hy6,hy61,hy62⟩:=bJ h
 refine bZ rfl ?_
 refine rf [0,3,4] [49] (KD a_1 rfl (0,m2) _ hy6 (fun r' e st hq=>by rw[hy61 r' e] at hq;exact hq) fun u6 hu=>?_)
 replace h:=hy62 u6 hu
 refine cq 5 [2] [.hs 1 0 [] 1 0 (u6.map str).length] 34 ?_
 obtain rfl:=sI h
 exact bR rfl ⟨_,fin (vs:=[.hs 1 0 [] 1 0 (u6.map str).length]) rfl (ec (fe rfl (dt rfl rfl)) dZ) rfl (ed eH),eE⟩
theorem OV {G:cO}:cM G 32 zO:=gT 1 0 bX cY Tryz.func32 (fun a r h=>RG a r h)
def vi:Condition→List V:=oA aE
def vj (r:Condition):V×List V:=(pq r,[])
noncomputable def qW (bc:Condition→Option Condition):Ent:=bC [false] vi vj bc
theorem Ls (bc:Condition→Option Condition){x}{r}(h:bc x=some r):(qW bc).F (vi x)=some (vj r):=aQ (aR bf) h
def BU:(List Condition)→List V:=oA (ln au)
def BV (r:(List Condition)):V×List V:=(.usl 4 (r.map ae),[])
noncomputable def zL (bc:Condition→Option Condition):Ent:=bC [false] BU BV fun x=>vk bc x
theorem Wb (bc:Condition→Option Condition){a_1:List Condition}{r}(h:vk bc a_1=some r):(zL bc).F (BU a_1)=some (BV r):=aQ (aR (d9 eW)) h
noncomputable def OO :=aK Tryz.f109
noncomputable def Ic (bc:Condition→Option Condition):Env:=cX [(91,(qW bc))]
def OM (bc:Condition→Option Condition)(x:(List Condition))(r:(List Condition)):St→Prop:=QF (Ic bc) Tryz.f109 [false] (BU x) (BV r)
theorem KC (bc:Condition→Option Condition)(a_1:List Condition):cD (Ic bc) 0 (OM bc a_1) (cL (cL (cR (cL (cR (cR OO)))))) 0 (pZ bc a_1) (fun u=>(sT 23 [(3,.hs 1 0 [] 4 0 (u.map ae).length)] [⟨0,4,u.map ae⟩] 2)) fun x3=>(sT 23 [(0,.isl false (a_1.map au)),(3,.hs 1 0 [] 4 0 (x3.2.map ae).length),(4,I x3.1)] [⟨0,4,x3.2.map ae⟩] 2):=ey (xX bc a_1) fun {Q K} hK self ih x3 y h hr hn=>by
 unfold kF at h
 refine cq 5 [8,9] [I x3.1,.isl false (a_1.map au)] 34 ?_
 refine oq 50 (I (len a_1)) rfl (bG rfl rfl rfl (cH rfl)) ?_
 refine cq 2 [11] [B (decide (x3.1<(len a_1)))] 66 ?_
 refine sq h ?_ ?_<;>intro h
 ·refine aq 1 ?_
  refine cq 7 [14,15,16,17] [.hs 1 0 [] 4 0 (x3.2.map ae).length,I x3.1,.isl false (a_1.map au),I x3.1] 130 ?_
  obtain⟨e4,he4,h⟩:=bS h
  refine oq 146 (.iptr (aE e4) 0) rfl (ao rfl rfl rfl (bH rfl rfl (bd e4) rfl he4)) ?_
  refine cq 1 [19] [aE e4] 162 ?_
  obtain⟨r5,hr5,h⟩:=bS h
  refine oq 178 (.agg [I r5.Op,str r5.Name,I r5.Day,.hs 162 0 [] 4 0 (r5.Parts.map ae).length]) rfl (aW rfl rfl (bv rfl rfl rfl (bm (bK rfl) cy) (Ls bc hr5) (.inr rfl) cI rfl rfl rfl)) ?_
  obtain⟨e6,he6,h⟩:=bS h
  refine oq 194 (.hp 1 0 [] 4 (0+Int.toNat x3.1) 0) rfl (ao rfl rfl rfl (dJ (f:=ae) (xs:=x3.2) rfl rfl rfl he6)) ?_
  refine o0 210 rfl rfl (fw rfl rfl (eq (path:=[]) (pl:=false) (e':=pq r5) (es2':=(cS x3.2 x3.1 r5).map ae) rfl (qz (dj (dF rfl) (dj (dF rfl) (dj (dF rfl) (dj (dt rfl rfl) qA))))) rfl rfl rfl aG (lb (f:=ae) (xs:=x3.2) (cW e6) he6) rfl rfl rfl (A4 (f:=ae) (xs:=x3.2) (cW r5)) d7 1 rfl)) ?_
  try rw[←gZ (f:=ae) (xs:=x3.2) (i:=x3.1) (z:=r5)]
  refine cq 7 [4] [I (aj (x3.1+1))] 258 ?_
  refine cZ ?_
  exact rf [0,3,4] [1] (ih _ _ h hr hn :)
 ·refine aq 1 ?_
  exact rf [3] [1] (hn _ (ap h) :) (hk:=hK)
theorem RE (bc:Condition→Option Condition)(a_1:List Condition)(r:(List Condition))(h:vk bc a_1=some r):bT (Ic bc) Tryz.f109 [false] 0 (BU a_1) (BV r):=by
 show Run _ _ (OM bc a_1 r) [.code OO] _
 refine rI 23 [(0,.isl false (a_1.map au))] [] 1 ?_
 unfold vk at h
 refine cq 7 [5] [.isl false (a_1.map au)] 33 ?_
 refine oq 49 (I (len a_1)) rfl (bG rfl rfl rfl (cH rfl)) ?_
 obtain⟨m2,hm2,h⟩:=bS h
 refine oq 65 (.hs 49 0 [] 4 0 (m2.map ae).length) rfl (oO rfl rfl (QE (g:=ae) (f:=fun _=>(.agg [I (0),str ([]),I (0),.isl true []]:V)) (z0:=(Condition.mk 0 [] 0 [])) rfl rfl rfl (by decide) hm2 rfl)) ?_
 refine fK 49 (m2.map ae) rfl rfl (Jm hm2 ((cW _).symm▸gI (aD (.refl _) (aD (.refl _) (aD (.refl _) (aD (.nil _) eD)))))) ?_
 refine cq 8 [3,4] [.hs 49 0 [] 4 0 (m2.map ae).length,I (0)] 97 ?_
 obtain⟨y7,hy7,hy71,hy72⟩:=bJ h
 refine bZ rfl ?_
 refine rf [0,3,4] [49] (KC bc a_1 rfl (0,m2) _ hy7 (fun r' e st hq=>by rw[hy71 r' e] at hq;exact hq) fun u7 hu=>?_)
 replace h:=hy72 u7 hu
 refine cq 5 [2] [.hs 1 0 [] 4 0 (u7.map ae).length] 34 ?_
 obtain rfl:=sI h
 exact bR rfl ⟨_,fin (vs:=[.hs 1 0 [] 4 0 (u7.map ae).length]) rfl (ec (fe rfl (dt rfl rfl)) dZ) rfl (ed eH),eE⟩
theorem OP {G:cO}(bc:Condition→Option Condition)(Jy:cM G 91 (qW bc)):cM G 109 (zL bc):=gT 1 0 (aU Jy bX) cY Tryz.func109 (fun a r h=>RE bc a r h)
noncomputable def zK :=qW (aA oX)
theorem V8 {a_1:Condition}{r}(h:zJ a_1=some r):zK.F (vi a_1)=some (vj r):=Ls (aA oX) h
noncomputable def Wa :=aK Tryz.f91
noncomputable def OK (bc:Condition→Option Condition):Env:=cX [(109,(zL bc))]
def V9 (bc:Condition→Option Condition)(x:Condition)(r:Condition):St→Prop:=QF (OK bc) Tryz.f91 [false] (vi x) (vj r)
theorem RD (bc:Condition→Option Condition)(a_1:Condition)(r:Condition)(h:sE bc a_1=some r):bT (OK bc) Tryz.f91 [false] 0 (vi a_1) (vj r):=by
 show Run _ _ (V9 bc a_1 r) [.code Wa] _
 refine rI 18 [(0,aE a_1)] [] 1 ?_
 unfold sE at h
 refine ck 4 [1,2] [] [1,17] [] [.hp 1 0 [] 4 0 0,.hp 17 0 [] 4 0 0] [some ⟨0,4,[aE a_1]⟩,some ⟨0,4,[.agg [I (0),str ([]),I (0),.isl true []]]⟩] 33 (by kernel_rfl) ?_
 refine fK 17 [.agg [I (0),str ([]),I (0),.usl 4 (([]).map ae)]] rfl rfl (aD (gI (aD (.refl _) (aD (.refl _) (aD (.refl _) (aD (.nil _) eD))))) eD) ?_
 refine ck 4 [3] [] [33] [] [.hp 33 0 [] 4 0 0] [some ⟨0,4,[.agg [I (0),str ([]),I (0),.isl true []]]⟩] 49 (by kernel_rfl) ?_
 refine fK 33 [.agg [I (0),str ([]),I (0),.usl 4 (([]).map ae)]] rfl rfl (aD (gI (aD (.refl _) (aD (.refl _) (aD (.refl _) (aD (.nil _) eD))))) eD) ?_
 refine ck 26 [14] [] [33] [] [.isl false (a_1.Parts.map au)] [some ⟨1,4,[.agg [I a_1.Op,str a_1.Name,I a_1.Day,.usl 4 (([]).map ae)]]⟩] 273 (by kernel_rfl) ?_
 obtain⟨r2,hr2,h⟩:=bS h
 refine oq 289 (.hs 273 0 [] 4 0 (r2.map ae).length) rfl (aW rfl rfl (bv rfl rfl rfl (bm (bK rfl) cy) (Wb bc hr2) (.inr rfl) cI rfl rfl rfl)) ?_
 refine cq 1 [16] [.hp 33 0 [] 4 0 3] 305 ?_
 refine o0 321 rfl rfl (fw rfl rfl (eq (path:=[]) (pl:=false) (e':=.agg [I a_1.Op,str a_1.Name,I a_1.Day,.usl 4 (r2.map ae)]) (es2':=[.agg [I a_1.Op,str a_1.Name,I a_1.Day,.usl 4 (r2.map ae)]]) rfl (fe rfl (dt rfl rfl)) rfl rfl rfl aG rfl rfl rfl rfl rfl d7 2 rfl)) ?_
 refine cq 4 [17] [.agg [I a_1.Op,str a_1.Name,I a_1.Day,.hs 33 2 [(0,3)] 4 0 (r2.map ae).length]] 337 ?_
 refine o0 353 rfl rfl (fw rfl rfl (eq (path:=[]) (pl:=false) (e':=.agg [I a_1.Op,str a_1.Name,I a_1.Day,.usl 4 (r2.map ae)]) (es2':=[.agg [I a_1.Op,str a_1.Name,I a_1.Day,.usl 4 (r2.map ae)]]) rfl (qz (dj (dF rfl) (dj (dF rfl) (dj (dF rfl) (dj (nr (path:=[(0,3)]) rfl rfl (ii rfl rfl aG) rfl (sd (path:=[]) (i:=0) (k:=3) (e':=.agg [I a_1.Op,str a_1.Name,I a_1.Day,.dead]) (es2':=[.agg [I a_1.Op,str a_1.Name,I a_1.Day,.dead]]) aG rfl rfl rfl d7)) qA))))) rfl rfl rfl aG rfl rfl rfl rfl rfl d7 2 rfl)) ?_
 refine aq 1 ?_
 obtain rfl:=sI h
 exact bR rfl ⟨_,fin (vs:=[.agg [I a_1.Op,str a_1.Name,I a_1.Day,.hs 17 2 [(0,3)] 4 0 (r2.map ae).length]]) (Tn (Fx rfl rfl rfl) Tp) (ec (qz (dj (dF rfl) (dj (dF rfl) (dj (dF rfl) (dj (nr (path:=[(0,3)]) rfl rfl (ii rfl rfl aG) rfl (sd (path:=[]) (i:=0) (k:=3) (e':=.agg [I a_1.Op,str a_1.Name,I a_1.Day,.dead]) (es2':=[.agg [I a_1.Op,str a_1.Name,I a_1.Day,.dead]]) aG rfl rfl rfl d7)) qA))))) dZ) rfl (ed eH),eE⟩
theorem OL {G:cO}:cM G 91 zK:=gx fun bc Jy=>gT 1 0 (aU (OP bc Jy) bX) cY Tryz.func91 (fun a r h=>RD bc a r h)
def BQ:Clause→List V:=oA ar
def BR (r:Clause):V×List V:=(tB r,[])
noncomputable def zG :=bC [false] BQ BR fun x=>vh x
theorem V4 {a_1:Clause}{r}(h:vh a_1=some r):zG.F (BQ a_1)=some (BR r):=aQ (aR cV) h
noncomputable def V6 :=aK Tryz.f61
noncomputable def OE :=cX [(91,zK)]
def V5 (x:Clause)(r:Clause):St→Prop:=QF OE Tryz.f61 [false] (BQ x) (BR r)
theorem RA (a_1:Clause)(r:Clause)(h:vh a_1=some r):bT OE Tryz.f61 [false] 0 (BQ a_1) (BR r):=by
 show Run _ _ (V5 a_1 r) [.code V6] _
 refine rI 33 [(0,ar a_1)] [] 1 ?_
 unfold vh at h
 refine ck 4 [1,2] [] [1,17] [] [.hp 1 0 [] 12 0 0,.hp 17 0 [] 12 0 0] [some ⟨0,12,[ar a_1]⟩,some ⟨0,12,[.agg [str ([]),I (0),I (0),str ([]),I (0),I (0),I (0),str ([]),I (0),.isl true [],I (0),str ([])]]⟩] 33 (by kernel_rfl) ?_
 refine fK 17 [.agg [str ([]),I (0),I (0),str ([]),I (0),I (0),I (0),str ([]),I (0),.usl 4 (([]).map ae),I (0),str ([])]] rfl rfl (aD (gI (aD (.refl _) (aD (.refl _) (aD (.refl _) (aD (.refl _) (aD (.refl _) (aD (.refl _) (aD (.refl _) (aD (.refl _) (aD (.refl _) (aD (.nil _) (aD (.refl _) (aD (.refl _) eD))))))))))))) eD) ?_
 refine ck 4 [3] [] [33] [] [.hp 33 0 [] 12 0 0] [some ⟨0,12,[.agg [str ([]),I (0),I (0),str ([]),I (0),I (0),I (0),str ([]),I (0),.isl true [],I (0),str ([])]]⟩] 49 (by kernel_rfl) ?_
 refine fK 33 [.agg [str ([]),I (0),I (0),str ([]),I (0),I (0),I (0),str ([]),I (0),.usl 4 (([]).map ae),I (0),str ([])]] rfl rfl (aD (gI (aD (.refl _) (aD (.refl _) (aD (.refl _) (aD (.refl _) (aD (.refl _) (aD (.refl _) (aD (.refl _) (aD (.refl _) (aD (.refl _) (aD (.nil _) (aD (.refl _) (aD (.refl _) eD))))))))))))) eD) ?_
 refine ck 47 [23] [] [33] [] [aE a_1.When] [some ⟨1,12,[.agg [str a_1.Id,I a_1.Kind,I a_1.Party,str a_1.Action,I a_1.Other,I a_1.Amount,I (0),str ([]),I (0),.usl 4 (([]).map ae),I (0),str ([])]]⟩] 465 (by kernel_rfl) ?_
 obtain⟨r2,hr2,h⟩:=bS h
 refine oq 481 (.agg [I r2.Op,str r2.Name,I r2.Day,.hs 465 0 [] 4 0 (r2.Parts.map ae).length]) rfl (cP (V8 hr2)) ?_
 refine cq 1 [25] [.hp 33 0 [] 12 0 6] 497 ?_
 refine o0 513 rfl rfl (fw rfl rfl (eq (path:=[]) (pl:=false) (e':=.agg [str a_1.Id,I a_1.Kind,I a_1.Party,str a_1.Action,I a_1.Other,I a_1.Amount,I r2.Op,str r2.Name,I r2.Day,.usl 4 (r2.Parts.map ae),I (0),str ([])]) (es2':=[.agg [str a_1.Id,I a_1.Kind,I a_1.Party,str a_1.Action,I a_1.Other,I a_1.Amount,I r2.Op,str r2.Name,I r2.Day,.usl 4 (r2.Parts.map ae),I (0),str ([])]]) rfl (qz (dj (dF rfl) (dj (dF rfl) (dj (dF rfl) (dj (dt rfl rfl) qA))))) rfl rfl rfl aG rfl rfl rfl rfl rfl d7 2 rfl)) ?_
 refine ck 18 [32] [] [33] [] [.agg [str a_1.Id,I a_1.Kind,I a_1.Party,str a_1.Action,I a_1.Other,I a_1.Amount,I r2.Op,str r2.Name,I r2.Day,.hs 33 2 [(0,9)] 4 0 (r2.Parts.map ae).length,I a_1.Within,str a_1.Repair]] [some ⟨2,12,[.agg [str a_1.Id,I a_1.Kind,I a_1.Party,str a_1.Action,I a_1.Other,I a_1.Amount,I r2.Op,str r2.Name,I r2.Day,.usl 4 (r2.Parts.map ae),I a_1.Within,str a_1.Repair]]⟩] 657 (by kernel_rfl) ?_
 refine o0 673 rfl rfl (fw rfl rfl (eq (path:=[]) (pl:=false) (e':=.agg [str a_1.Id,I a_1.Kind,I a_1.Party,str a_1.Action,I a_1.Other,I a_1.Amount,I r2.Op,str r2.Name,I r2.Day,.usl 4 (r2.Parts.map ae),I a_1.Within,str a_1.Repair]) (es2':=[.agg [str a_1.Id,I a_1.Kind,I a_1.Party,str a_1.Action,I a_1.Other,I a_1.Amount,I r2.Op,str r2.Name,I r2.Day,.usl 4 (r2.Parts.map ae),I a_1.Within,str a_1.Repair]]) rfl (qz (dj (dF rfl) (dj (dF rfl) (dj (dF rfl) (dj (dF rfl) (dj (dF rfl) (dj (dF rfl) (dj (dF rfl) (dj (dF rfl) (dj (dF rfl) (dj (nr (path:=[(0,9)]) rfl rfl (ii rfl rfl aG) rfl (sd (path:=[]) (i:=0) (k:=9) (e':=.agg [str a_1.Id,I a_1.Kind,I a_1.Party,str a_1.Action,I a_1.Other,I a_1.Amount,I r2.Op,str r2.Name,I r2.Day,.dead,I a_1.Within,str a_1.Repair]) (es2':=[.agg [str a_1.Id,I a_1.Kind,I a_1.Party,str a_1.Action,I a_1.Other,I a_1.Amount,I r2.Op,str r2.Name,I r2.Day,.dead,I a_1.Within,str a_1.Repair]]) aG rfl rfl rfl d7)) (dj (dF rfl) (dj (dF rfl) qA))))))))))))) rfl rfl rfl aG rfl rfl rfl rfl rfl d7 2 rfl)) ?_
 refine aq 1 ?_
 obtain rfl:=sI h
 exact bR rfl ⟨_,fin (vs:=[.agg [str a_1.Id,I a_1.Kind,I a_1.Party,str a_1.Action,I a_1.Other,I a_1.Amount,I r2.Op,str r2.Name,I r2.Day,.hs 17 2 [(0,9)] 4 0 (r2.Parts.map ae).length,I a_1.Within,str a_1.Repair]]) (Tn (Fx rfl rfl rfl) Tp) (ec (qz (dj (dF rfl) (dj (dF rfl) (dj (dF rfl) (dj (dF rfl) (dj (dF rfl) (dj (dF rfl) (dj (dF rfl) (dj (dF rfl) (dj (dF rfl) (dj (nr (path:=[(0,9)]) rfl rfl (ii rfl rfl aG) rfl (sd (path:=[]) (i:=0) (k:=9) (e':=.agg [str a_1.Id,I a_1.Kind,I a_1.Party,str a_1.Action,I a_1.Other,I a_1.Amount,I r2.Op,str r2.Name,I r2.Day,.dead,I a_1.Within,str a_1.Repair]) (es2':=[.agg [str a_1.Id,I a_1.Kind,I a_1.Party,str a_1.Action,I a_1.Other,I a_1.Amount,I r2.Op,str r2.Name,I r2.Day,.dead,I a_1.Within,str a_1.Repair]]) aG rfl rfl rfl d7)) (dj (dF rfl) (dj (dF rfl) qA))))))))))))) dZ) rfl (ed eH),eE⟩
theorem OG {G:cO}:cM G 61 zG:=gT 1 0 (aU OL bX) cY Tryz.func61 (fun a r h=>RA a r h)
def BS:(List Clause)→List V:=oA (ln ar)
def BT (r:(List Clause)):V×List V:=(.usl 12 (r.map ai),[])
noncomputable def zI :=bC [false] BS BT fun x=>zH x
theorem V7 {a_1:List Clause}{r}(h:zH a_1=some r):zI.F (BS a_1)=some (BT r):=aQ (aR (d9 cV)) h
noncomputable def OI :=aK Tryz.f33
noncomputable def Ib :=cX [(61,zG)]
def OH (x:(List Clause))(r:(List Clause)):St→Prop:=QF Ib Tryz.f33 [false] (BS x) (BT r)
theorem KB (a_1:List Clause):cD Ib 0 (OH a_1) (cL (cL (cR (cL (cR (cR OI)))))) 0 (sD a_1) (fun u=>(sT 23 [(3,.hs 1 0 [] 12 0 (u.map ai).length)] [⟨0,12,u.map ai⟩] 2)) fun x3=>(sT 23 [(0,.isl false (a_1.map ar)),(3,.hs 1 0 [] 12 0 (x3.2.map ai).length),(4,I x3.1)] [⟨0,12,x3.2.map ai⟩] 2):=ey (xW a_1) fun {Q K} hK self ih x3 y h hr hn=>by
 unfold mE at h
 refine cq 5 [8,9] [I x3.1,.isl false (a_1.map ar)] 34 ?_
 refine oq 50 (I (len a_1)) rfl (bG rfl rfl rfl (cH rfl)) ?_
 refine cq 2 [11] [B (decide (x3.1<(len a_1)))] 66 ?_
 refine sq h ?_ ?_<;>intro h
 ·refine aq 1 ?_
  refine cq 7 [14,15,16,17] [.hs 1 0 [] 12 0 (x3.2.map ai).length,I x3.1,.isl false (a_1.map ar),I x3.1] 130 ?_
  obtain⟨e4,he4,h⟩:=bS h
  refine oq 146 (.iptr (ar e4) 0) rfl (ao rfl rfl rfl (bH rfl rfl rfl rfl he4)) ?_
  refine cq 1 [19] [ar e4] 162 ?_
  obtain⟨r5,hr5,h⟩:=bS h
  refine oq 178 (.agg [str r5.Id,I r5.Kind,I r5.Party,str r5.Action,I r5.Other,I r5.Amount,I r5.When.Op,str r5.When.Name,I r5.When.Day,.hs 162 0 [] 4 0 (r5.When.Parts.map ae).length,I r5.Within,str r5.Repair]) rfl (cP (V4 hr5)) ?_
  obtain⟨e6,he6,h⟩:=bS h
  refine oq 194 (.hp 1 0 [] 12 (0+Int.toNat x3.1) 0) rfl (ao rfl rfl rfl (dJ (f:=ai) (xs:=x3.2) rfl rfl rfl he6)) ?_
  refine o0 210 rfl rfl (fw rfl rfl (eq (path:=[]) (pl:=false) (e':=tB r5) (es2':=(cS x3.2 x3.1 r5).map ai) rfl (qz (dj (dF rfl) (dj (dF rfl) (dj (dF rfl) (dj (dF rfl) (dj (dF rfl) (dj (dF rfl) (dj (dF rfl) (dj (dF rfl) (dj (dF rfl) (dj (dt rfl rfl) (dj (dF rfl) (dj (dF rfl) qA))))))))))))) rfl rfl rfl aG (cT (f:=ai) (xs:=x3.2) he6) rfl rfl rfl (jz (f:=ai) (xs:=x3.2) (y:=r5)) d7 1 rfl)) ?_
  try rw[←gZ (f:=ai) (xs:=x3.2) (i:=x3.1) (z:=r5)]
  refine cq 7 [4] [I (aj (x3.1+1))] 258 ?_
  refine cZ ?_
  exact rf [0,3,4] [1] (ih _ _ h hr hn :)
 ·refine aq 1 ?_
  exact rf [3] [1] (hn _ (ap h) :) (hk:=hK)
theorem RB (a_1:List Clause)(r:(List Clause))(h:zH a_1=some r):bT Ib Tryz.f33 [false] 0 (BS a_1) (BT r):=by
 show Run _ _ (OH a_1 r) [.code OI] _
 refine rI 23 [(0,.isl false (a_1.map ar))] [] 1 ?_
 unfold zH at h
 refine cq 7 [5] [.isl false (a_1.map ar)] 33 ?_
 refine oq 49 (I (len a_1)) rfl (bG rfl rfl rfl (cH rfl)) ?_
 obtain⟨m2,hm2,h⟩:=bS h
 refine oq 65 (.hs 49 0 [] 12 0 (m2.map ai).length) rfl (oO rfl rfl (QE (g:=ai) (f:=fun _=>(.agg [str ([]),I (0),I (0),str ([]),I (0),I (0),I (0),str ([]),I (0),.isl true [],I (0),str ([])]:V)) (z0:=(Clause.mk [] 0 0 [] 0 0 (Condition.mk 0 [] 0 []) 0 [])) rfl rfl rfl (by decide) hm2 rfl)) ?_
 refine fK 49 (m2.map ai) rfl rfl (Jm hm2 (gI (aD (.refl _) (aD (.refl _) (aD (.refl _) (aD (.refl _) (aD (.refl _) (aD (.refl _) (aD (.refl _) (aD (.refl _) (aD (.refl _) (aD (.nil _) (aD (.refl _) (aD (.refl _) eD)))))))))))))) ?_
 refine cq 8 [3,4] [.hs 49 0 [] 12 0 (m2.map ai).length,I (0)] 97 ?_
 obtain⟨y7,hy7,hy71,hy72⟩:=bJ h
 refine bZ rfl ?_
 refine rf [0,3,4] [49] (KB a_1 rfl (0,m2) _ hy7 (fun r' e st hq=>by rw[hy71 r' e] at hq;exact hq) fun u7 hu=>?_)
 replace h:=hy72 u7 hu
 refine cq 5 [2] [.hs 1 0 [] 12 0 (u7.map ai).length] 34 ?_
 obtain rfl:=sI h
 exact bR rfl ⟨_,fin (vs:=[.hs 1 0 [] 12 0 (u7.map ai).length]) rfl (ec (fe rfl (dt rfl rfl)) dZ) rfl (ed eH),eE⟩
theorem OJ {G:cO}:cM G 33 zI:=gT 1 0 (aU OG bX) cY Tryz.func33 (fun a r h=>RB a r h)
def BW:Contract→List V:=oA aO
def BX (r:Contract):V×List V:=(jW r,[])
noncomputable def zM :=bC [false] BW BX fun x=>rB x
theorem vl {a_1:Contract}{r}(h:rB a_1=some r):zM.F (BW a_1)=some (BX r):=aQ (aR bN) h
noncomputable def We :=aK Tryz.f8
noncomputable def OQ :=cX [(32,zO),(33,zI)]
def Wc (x:Contract)(r:Contract):St→Prop:=QF OQ Tryz.f8 [false] (BW x) (BX r)
theorem RF (a_1:Contract)(r:Contract)(h:rB a_1=some r):bT OQ Tryz.f8 [false] 0 (BW a_1) (BX r):=by
 show Run _ _ (Wc a_1 r) [.code We] _
 refine rI 13 [(0,aO a_1)] [] 1 ?_
 unfold rB at h
 refine ck 4 [1,2] [] [1,17] [] [.hp 1 0 [] 2 0 0,.hp 17 0 [] 2 0 0] [some ⟨0,2,[aO a_1]⟩,some ⟨0,2,[.agg [.isl true [],.isl true []]]⟩] 33 (by kernel_rfl) ?_
 refine fK 17 [.agg [.usl 1 (([]).map str),.usl 12 (([]).map ai)]] rfl rfl (aD (gI (aD (.nil _) (aD (.nil _) eD))) eD) ?_
 refine ck 4 [3] [] [33] [] [.hp 33 0 [] 2 0 0] [some ⟨0,2,[.agg [.isl true [],.isl true []]]⟩] 49 (by kernel_rfl) ?_
 refine fK 33 [.agg [.usl 1 (([]).map str),.usl 12 (([]).map ai)]] rfl rfl (aD (gI (aD (.nil _) (aD (.nil _) eD))) eD) ?_
 refine cq 5 [5] [.isl false (a_1.Parties.map str)] 81 ?_
 obtain⟨r2,hr2,h⟩:=bS h
 refine oq 97 (.hs 81 0 [] 1 0 (r2.map str).length) rfl (cP (Wf hr2)) ?_
 refine cq 1 [7] [.hp 33 0 [] 2 0 0] 113 ?_
 refine o0 129 rfl rfl (fw rfl rfl (eq (path:=[]) (pl:=false) (e':=.agg [.usl 1 (r2.map str),.usl 12 (([]).map ai)]) (es2':=[.agg [.usl 1 (r2.map str),.usl 12 (([]).map ai)]]) rfl (fe rfl (dt rfl rfl)) rfl rfl rfl aG rfl rfl rfl rfl rfl d7 2 rfl)) ?_
 refine cq 5 [9] [.isl false (a_1.Clauses.map ar)] 161 ?_
 obtain⟨r3,hr3,h⟩:=bS h
 refine oq 177 (.hs 161 0 [] 12 0 (r3.map ai).length) rfl (cP (V7 hr3)) ?_
 refine cq 1 [11] [.hp 33 0 [] 2 0 1] 193 ?_
 refine o0 209 rfl rfl (fw rfl rfl (eq (path:=[]) (pl:=false) (e':=.agg [.usl 1 (r2.map str),.usl 12 (r3.map ai)]) (es2':=[.agg [.usl 1 (r2.map str),.usl 12 (r3.map ai)]]) rfl (fe rfl (dt rfl rfl)) rfl rfl rfl aG rfl rfl rfl rfl rfl d7 3 rfl)) ?_
 refine cq 4 [12] [.agg [.hs 33 3 [(0,0)] 1 0 (r2.map str).length,.hs 33 3 [(0,1)] 12 0 (r3.map ai).length]] 225 ?_
 refine o0 241 rfl rfl (fw rfl rfl (eq (path:=[]) (pl:=false) (e':=.agg [.usl 1 (r2.map str),.usl 12 (r3.map ai)]) (es2':=[.agg [.usl 1 (r2.map str),.usl 12 (r3.map ai)]]) rfl (qz (dj (nr (path:=[(0,0)]) rfl rfl (ii rfl rfl aG) rfl (sd (path:=[]) (i:=0) (k:=0) (e':=.agg [.dead,.usl 12 (r3.map ai)]) (es2':=[.agg [.dead,.usl 12 (r3.map ai)]]) aG rfl rfl rfl d7)) (dj (nr (path:=[(0,1)]) rfl rfl (ii rfl rfl aG) rfl (sd (path:=[]) (i:=0) (k:=1) (e':=.agg [.dead,.dead]) (es2':=[.agg [.dead,.dead]]) aG rfl rfl rfl d7)) qA))) rfl rfl rfl aG rfl rfl rfl rfl rfl d7 2 rfl)) ?_
 refine aq 1 ?_
 obtain rfl:=sI h
 exact bR rfl ⟨_,fin (vs:=[.agg [.hs 17 2 [(0,0)] 1 0 (r2.map str).length,.hs 17 2 [(0,1)] 12 0 (r3.map ai).length]]) (Tn (Fx rfl rfl rfl) Tp) (ec (qz (dj (nr (path:=[(0,0)]) rfl rfl (ii rfl rfl aG) rfl (sd (path:=[]) (i:=0) (k:=0) (e':=.agg [.dead,.usl 12 (r3.map ai)]) (es2':=[.agg [.dead,.usl 12 (r3.map ai)]]) aG rfl rfl rfl d7)) (dj (nr (path:=[(0,1)]) rfl rfl (ii rfl rfl aG) rfl (sd (path:=[]) (i:=0) (k:=1) (e':=.agg [.dead,.dead]) (es2':=[.agg [.dead,.dead]]) aG rfl rfl rfl d7)) qA))) dZ) rfl (ed eH),eE⟩
theorem OS {G:cO}:cM G 8 zM:=gT 1 0 (aU OV (aU OJ bX)) cY Tryz.func8 (fun a r h=>RF a r h)
def oU:(Int×Int×Int)→List V:=cA I (cA I (oA I))
def oV (r:Bool):V×List V:=(B r,[])
noncomputable def hJ :=bC [false,false,false] oU oV fun x=>eQ x.1 x.2.1 x.2.2
theorem gF {x_1:Int}{a_2:Int}{b_3:Int}{r}(h:eQ x_1 a_2 b_3=some r):hJ.F (oU (x_1,a_2,b_3))=some (oV r):=aQ (bB cu (bB cu (aR cu))) h
noncomputable def yZ :=aK Tryz.f42
noncomputable def sb :=cX []
def yY (x:Int×Int×Int)(r:Bool):St→Prop:=QF sb Tryz.f42 [false,false,false] (oU x) (oV r)
theorem GR (x_1:Int)(a_2:Int)(b_3:Int)(r:Bool)(h:eQ x_1 a_2 b_3=some r):bT sb Tryz.f42 [false,false,false] 0 (oU (x_1,a_2,b_3)) (oV r):=by
 show Run _ _ (yY (x_1,a_2,b_3) r) [.code yZ] _
 refine rI 15 [(0,I x_1),(1,I a_2),(2,I b_3)] [] 1 ?_
 unfold eQ at h
 refine cq 10 [10] [B (decide (x_1≥a_2))] 81 ?_
 obtain⟨u4,hu4,h⟩:=lJ h
 have j4:Run sb 0 (yY (x_1,a_2,b_3) r) (.code (cR (cR yZ))::[]) (sT 15 [(6,B u4)] [] 1):=by
  obtain rfl:=sI h
  exact rP [B u4]
 replace h:=hu4
 clear hu4
 refine sp 10 h rfl ?_ ?_<;>intro h
 ·refine cq 6 [6] [B (decide (x_1≤b_3))] 161 ?_
  subst h
  exact rf [6] [] (j4 :)
 ·refine cq 6 [6] [B false] 161 ?_
  subst h
  exact rf [6] [] (j4 :)
theorem jA {G:cO}:cM G 42 hJ:=gT 3 0 bX cY Tryz.func42 (fun a r h=>GR a.1 a.2.1 a.2.2 r h)
def CR:Int→List V:=oA (V.int .u8)
def CS (r:Bool):V×List V:=(B r,[])
noncomputable def Aj :=bC [false] CR CS fun x=>vL x
theorem WB {b_1:Int}{r}(h:vL b_1=some r):Aj.F (CR b_1)=some (CS r):=aQ (aR (Kl (k:=.u8))) h
noncomputable def vN :=aK Tryz.f106
noncomputable def sU :=cX []
def vM (x:Int)(r:Bool):St→Prop:=QF sU Tryz.f106 [false] (CR x) (CS r)
theorem Sa (b_1:Int)(r:Bool)(h:vL b_1=some r):bT sU Tryz.f106 [false] 0 (CR b_1) (CS r):=by
 show Run _ _ (vM b_1 r) [.code vN] _
 refine rI 17 [(0,.int .u8 b_1)] [] 1 ?_
 unfold vL at h
 refine cq 9 [5] [B (decide (b_1≥97))] 65 ?_
 obtain⟨u2,hu2,h⟩:=lJ h
 have j2:Run sU 0 (vM b_1 r) (.code (cR (cR vN))::[]) (sT 17 [(2,B u2)] [] 1):=by
  obtain rfl:=sI h
  exact rP [B u2]
 replace h:=hu2
 clear hu2
 refine sp 5 h rfl ?_ ?_<;>intro h
 ·refine cq 4 [9] [B (decide (b_1≤122))] 129 ?_
  obtain⟨u3,hu3,h⟩:=lJ h
  have j3:Run sU 0 (vM b_1 r) (.code (cR (cR vN))::[]) (sT 17 [(2,B u3)] [] 1):=by
   subst h
   exact rf [2] [] (j2 :)
  replace h:=hu3
  clear hu3
  refine sp 9 h rfl ?_ ?_<;>intro h
  ·refine cq 9 [2] [B true] 257 ?_
   subst h
   exact rf [2] [] (j3 :)
  ·refine cq 3 [12] [B (decide (b_1≥48))] 177 ?_
   obtain⟨u4,hu4,h⟩:=lJ h
   have j4:Run sU 0 (vM b_1 r) (.code (cR (cR vN))::[]) (sT 17 [(2,B u4)] [] 1):=by
    subst h
    exact rf [2] [] (j3 :)
   replace h:=hu4
   clear hu4
   refine sp 12 h rfl ?_ ?_<;>intro h
   ·refine cq 6 [2] [B (decide (b_1≤57))] 257 ?_
    subst h
    exact rf [2] [] (j4 :)
   ·refine cq 6 [2] [B false] 257 ?_
    subst h
    exact rf [2] [] (j4 :)
 ·refine cq 7 [9,12] [B false,B (decide (b_1≥48))] 177 ?_
  obtain⟨u5,hu5,h⟩:=lJ h
  have j5:Run sU 0 (vM b_1 r) (.code (cR (cR vN))::[]) (sT 17 [(2,B u5)] [] 1):=by
   subst h
   exact rf [2] [] (j2 :)
  replace h:=hu5
  clear hu5
  refine sp 12 h rfl ?_ ?_<;>intro h
  ·refine cq 6 [2] [B (decide (b_1≤57))] 257 ?_
   subst h
   exact rf [2] [] (j5 :)
  ·refine cq 6 [2] [B false] 257 ?_
   subst h
   exact rf [2] [] (j5 :)
theorem Pu {G:cO}:cM G 106 Aj:=gT 1 0 bX cY Tryz.func106 (fun a r h=>Sa a r h)
def CM:ac→List V:=oA str
def CN (r:Bool):V×List V:=(B r,[])
noncomputable def qr :=bC [false] CM CN fun x=>rE x
theorem vD {s_1:ac}{r}(h:rE s_1=some r):qr.F (CM s_1)=some (CN r):=aQ (aR bI) h
noncomputable def oY :=aK Tryz.f83
noncomputable abbrev mJ :=cR (cR (cR (cR oY)))
noncomputable abbrev mK :=cR (cL (cR (cL (cR (cR (cR oY))))))
noncomputable def jh :=cX [(42,hJ),(106,Aj)]
def hY (x:ac)(r:Bool):St→Prop:=QF jh Tryz.f83 [false] (CM x) (CN r)
theorem KQ (s_1:ac):cD jh 0 (hY s_1) (cL (cL (cR (cL (cR (cR oY)))))) 0 (sP s_1) (fun u=>(sT 40 [(0,str s_1)] [] 1)) fun x4=>(sT 40 [(0,str s_1),(3,I x4)] [] 1):=ey (yp s_1) fun {Q K} hK self ih x4 y h hr hn=>by
 unfold mL at h
 refine cq 8 [21] [B (decide (x4<(len s_1)))] 65 ?_
 refine sq h ?_ ?_<;>intro h
 ·refine aq 1 ?_
  refine cq 6 [24,25] [str s_1,I x4] 97 ?_
  obtain⟨c5,hc5,h⟩:=bS h
  refine oq 113 (.int .u8 (c5.toNat:Int)) rfl (mS rfl rfl (rk rfl rfl hc5)) ?_
  obtain⟨r6,hr6,h⟩:=bS h
  refine oq 129 (B r6) rfl (cP (WB hr6)) ?_
  refine cq 2 [28] [B (!r6)] 145 ?_
  refine sq h ?_ ?_<;>intro h
  ·refine cq 4 [2] [B false] 161 ?_
   exact bR rfl (hr _ (ap h) _ (qp [B false]))
  ·refine aq 1 ?_
   refine cq 6 [3] [I (aj (x4+1))] 193 ?_
   refine cZ ?_
   exact rf [0,3] [] (ih _ _ h hr hn :)
 ·refine aq 1 ?_
  exact rf [0] [] (hn _ (ap h) :) (hk:=hK)
theorem R6 (s_1:ac)(r:Bool)(h:rE s_1=some r):bT jh Tryz.f83 [false] 0 (CM s_1) (CN r):=by
 show Run _ _ (hY s_1 r) [.code oY] _
 refine rI 40 [(0,str s_1)] [] 1 ?_
 unfold rE at h
 refine cq 9 [5] [I (len s_1)] 49 ?_
 obtain⟨r2,hr2,h⟩:=bS h
 refine oq 65 (B r2) rfl (cP (gF hr2)) ?_
 refine cq 2 [8] [B (!r2)] 97 ?_
 obtain⟨y3,hy3,hy31,hy32⟩:=bJ h
 have j3:∀u3,y3=.inr u3→Run jh 0 (hY s_1 r) (.code (cR (cL (cR oY)))::.code (cR (cR oY))::[]) (sT 40 [(0,str s_1),(17,B u3)] [] 1):=by
  intro u3 hu
  replace h:=hy32 u3 hu
  refine sq h ?_ ?_<;>intro h
  ·refine cq 4 [2] [B false] 17 ?_
   obtain rfl:=sI h
   exact rP [B false]
  ·refine aq 1 ?_
   refine cq 6 [3] [I (0)] 17 ?_
   obtain⟨y7,hy7,hy71,hy72⟩:=bJ h
   refine bZ rfl ?_
   refine rf [0,3] [] (KQ s_1 rfl 0 _ hy7 (fun r' e st hq=>by rw[hy71 r' e] at hq;exact hq) fun u7 hu=>?_)
   replace h:=hy72 u7 hu
   refine cq 12 [29,30] [str s_1,B (s_1==([116,114,117,101]:ac))] 49 ?_
   obtain⟨u8,hu8,h⟩:=lJ h
   have j8:Run jh 0 (hY s_1 r) (.code mK::.blk 2::.code mJ::[]) (sT 40 [(30,B u8)] [] 1):=by
    refine sq h ?_ ?_<;>intro h
    ·refine cq 4 [2] [B false] 17 ?_
     obtain rfl:=sI h
     exact rP [B false]
    ·refine aq 1 ?_
     refine cq 5 [2] [B true] 17 ?_
     obtain rfl:=sI h
     exact rP [B true]
   replace h:=hu8
   clear hu8
   refine EC h rfl rfl ?_ ?_<;>intro h
   ·refine aq 1 ?_
    subst h
    exact rf [30] [] (j8 :)
   ·refine cq 5 [30] [B (s_1==([102,114,111,109]:ac))] 81 ?_
    obtain⟨u9,hu9,h⟩:=lJ h
    have j9:Run jh 0 (hY s_1 r) (.code mK::.blk 2::.code mJ::[]) (sT 40 [(30,B u9)] [] 1):=by
     subst h
     exact rf [30] [] (j8 :)
    replace h:=hu9
    clear hu9
    refine EC h rfl rfl ?_ ?_<;>intro h
    ·refine aq 1 ?_
     subst h
     exact rf [30] [] (j9 :)
    ·refine cq 5 [30] [B (s_1==([110,111,116]:ac))] 113 ?_
     obtain⟨u10,hu10,h⟩:=lJ h
     have j10:Run jh 0 (hY s_1 r) (.code mK::.blk 2::.code mJ::[]) (sT 40 [(30,B u10)] [] 1):=by
      subst h
      exact rf [30] [] (j9 :)
     replace h:=hu10
     clear hu10
     refine EC h rfl rfl ?_ ?_<;>intro h
     ·refine aq 1 ?_
      subst h
      exact rf [30] [] (j10 :)
     ·refine cq 5 [30] [B (s_1==([97,110,100]:ac))] 145 ?_
      obtain⟨u11,hu11,h⟩:=lJ h
      have j11:Run jh 0 (hY s_1 r) (.code mK::.blk 2::.code mJ::[]) (sT 40 [(30,B u11)] [] 1):=by
       subst h
       exact rf [30] [] (j10 :)
      replace h:=hu11
      clear hu11
      refine EC h rfl rfl ?_ ?_<;>intro h
      ·refine aq 1 ?_
       subst h
       exact rf [30] [] (j11 :)
      ·refine cq 5 [30] [B (s_1==([111,114]:ac))] 177 ?_
       obtain⟨u12,hu12,h⟩:=lJ h
       have j12:Run jh 0 (hY s_1 r) (.code mK::.blk 2::.code mJ::[]) (sT 40 [(30,B u12)] [] 1):=by
        subst h
        exact rf [30] [] (j11 :)
       replace h:=hu12
       clear hu12
       refine EC h rfl rfl ?_ ?_<;>intro h
       ·refine aq 1 ?_
        subst h
        exact rf [30] [] (j12 :)
       ·refine cq 5 [30] [B (s_1==([98,111,116,104]:ac))] 209 ?_
        obtain⟨u13,hu13,h⟩:=lJ h
        have j13:Run jh 0 (hY s_1 r) (.code mK::.blk 2::.code mJ::[]) (sT 40 [(30,B u13)] [] 1):=by
         subst h
         exact rf [30] [] (j12 :)
        replace h:=hu13
        clear hu13
        refine EC h rfl rfl ?_ ?_<;>intro h
        ·refine aq 1 ?_
         subst h
         exact rf [30] [] (j13 :)
        ·refine cq 5 [30] [B (s_1==([101,105,116,104,101,114]:ac))] 241 ?_
         obtain⟨u14,hu14,h⟩:=lJ h
         have j14:Run jh 0 (hY s_1 r) (.code mK::.blk 2::.code mJ::[]) (sT 40 [(30,B u14)] [] 1):=by
          subst h
          exact rf [30] [] (j13 :)
         replace h:=hu14
         clear hu14
         refine EC h rfl rfl ?_ ?_<;>intro h
         ·refine aq 1 ?_
          subst h
          exact rf [30] [] (j14 :)
         ·refine cq 5 [30] [B (s_1==([105,116]:ac))] 273 ?_
          obtain⟨u15,hu15,h⟩:=lJ h
          have j15:Run jh 0 (hY s_1 r) (.code mK::.blk 2::.code mJ::[]) (sT 40 [(30,B u15)] [] 1):=by
           subst h
           exact rf [30] [] (j14 :)
          replace h:=hu15
          clear hu15
          refine EC h rfl rfl ?_ ?_<;>intro h
          ·refine aq 1 ?_
           subst h
           exact rf [30] [] (j15 :)
          ·refine cq 4 [30] [B (s_1==([105,110]:ac))] 305 ?_
           subst h
           exact rf [30] [] (j15 :)
 have r3:∀r',y3=.inl r'→∀st,hY s_1 r' st→(hY s_1 r) st:=fun r' e st hq=>by rw[hy31 r' e] at hq;exact hq
 replace h:=hy3
 refine sp 8 h rfl ?_ ?_<;>intro h
 ·refine cq 10 [17] [B true] 241 ?_
  exact rf [0,17] [] (j3 _ (ap h) :)
 ·refine cq 1 [9] [str s_1] 113 ?_
  obtain⟨c16,hc16,h⟩:=bS h
  refine oy 129 (.int .u8 (c16.toNat:Int)) rfl (mS rfl rfl (rk rfl rfl hc16)) ?_
  refine cq 3 [13] [B (decide ((c16.toNat:Int)<97))] 177 ?_
  obtain⟨y17,hy17,hy171,hy172⟩:=bL h
  have j17:∀u17,y17=.inr u17→Run jh 0 (hY s_1 r) (.code (cR (cL (cR oY)))::.code (cR (cR oY))::[]) (sT 40 [(0,str s_1),(17,B u17)] [] 1):=by
   intro u17 hu
   replace h:=hy172 u17 hu
   exact rf [0,17] [] (j3 _ (ap h) :)
  have r17:∀r',y17=.inl r'→∀st,hY s_1 r' st→(hY s_1 r) st:=fun r' e st hq=>r3 r' (hy171 r' e) st hq
  replace h:=hy17
  refine sp 13 h rfl ?_ ?_<;>intro h
  ·refine cq 5 [17] [B true] 241 ?_
   exact rf [0,17] [] (j17 _ (ap h) :)
  ·refine cq 1 [14] [str s_1] 193 ?_
   obtain⟨c18,hc18,h⟩:=bS h
   refine oy 209 (.int .u8 (c18.toNat:Int)) rfl (mS rfl rfl (rk rfl rfl hc18)) ?_
   refine cq 3 [17] [B (decide ((c18.toNat:Int)>122))] 241 ?_
   exact rf [0,17] [] (j17 _ (ap h) :)
theorem vE {G:cO}:cM G 83 qr:=gT 1 0 (aU jA (aU Pu bX)) cY Tryz.func83 (fun a r h=>R6 a r h)
def CB:((List ac)×ac)→List V:=cA (ln str) (oA str)
def CC (r:Bool):V×List V:=(B r,[])
noncomputable def tM :=bC [false,false] CB CC fun x=>rD x.1 x.2
theorem Iy {bo:List ac}{eA:ac}{r}(h:rD bo eA=some r):tM.F (CB (bo,eA))=some (CC r):=aQ (bB (d9 bI) (aR bI)) h
noncomputable def Pp :=aK Tryz.f84
noncomputable def Ix :=cX []
def Po (x:(List ac)×ac)(r:Bool):St→Prop:=QF Ix Tryz.f84 [false,false] (CB x) (CC r)
theorem KN (bo:List ac)(eA:ac):cD Ix 0 (Po (bo,eA)) (cL (cL (cR (cL (cR Pp))))) 0 (qd bo eA) (fun u=>(sT 18 [] [] 1)) fun x3=>(sT 18 [(0,.isl false (bo.map str)),(1,str eA),(5,I x3)] [] 1):=ey (yk bo eA) fun {Q K} hK self ih x3 y h hr hn=>by
 unfold kL at h
 refine cq 5 [6,7] [I x3,.isl false (bo.map str)] 33 ?_
 refine oq 49 (I (len bo)) rfl (bG rfl rfl rfl (cH rfl)) ?_
 refine cq 2 [9] [B (decide (x3<(len bo)))] 65 ?_
 refine sq h ?_ ?_<;>intro h
 ·refine aq 1 ?_
  refine cq 6 [12,13] [.isl false (bo.map str),I x3] 97 ?_
  obtain⟨e4,he4,h⟩:=bS h
  refine oq 113 (.iptr (str e4) 0) rfl (ao rfl rfl rfl (bH rfl rfl rfl rfl he4)) ?_
  refine cq 4 [17] [B (e4==eA)] 161 ?_
  refine sq h ?_ ?_<;>intro h
  ·refine cq 4 [4] [B true] 177 ?_
   exact bR rfl (hr _ (ap h) _ (qp [B true]))
  ·refine aq 1 ?_
   refine cq 6 [5] [I (aj (x3+1))] 209 ?_
   refine cZ ?_
   exact rf [0,1,5] [] (ih _ _ h hr hn :)
 ·refine aq 1 ?_
  exact rf [] [] (hn _ (ap h) :) (hk:=hK)
theorem R1 (bo:List ac)(eA:ac)(r:Bool)(h:rD bo eA=some r):bT Ix Tryz.f84 [false,false] 0 (CB (bo,eA)) (CC r):=by
 show Run _ _ (Po (bo,eA) r) [.code Pp] _
 refine rI 18 [(0,.isl false (bo.map str)),(1,str eA)] [] 1 ?_
 unfold rD at h
 refine cq 10 [5] [I (0)] 33 ?_
 obtain⟨y5,hy5,hy51,hy52⟩:=bJ h
 refine bZ rfl ?_
 refine rf [0,1,5] [] (KN bo eA rfl 0 _ hy5 (fun r' e st hq=>by rw[hy51 r' e] at hq;exact hq) fun u5 hu=>?_)
 replace h:=hy52 u5 hu
 refine cq 4 [4] [B false] 17 ?_
 obtain rfl:=sI h
 exact rP [B false]
theorem FP {G:cO}:cM G 84 tM:=gT 2 0 bX cY Tryz.func84 (fun a r h=>R1 a.1 a.2 r h)
def Dc:Contract→List V:=oA aO
def De (r:Bool):V×List V:=(B r,[])
noncomputable def Au :=bC [false] Dc De fun x=>vU x
theorem WG {c_1:Contract}{r}(h:vU c_1=some r):Au.F (Dc c_1)=some (De r):=aQ (aR bN) h
noncomputable def vV :=aK Tryz.f55
noncomputable def Dd :=cX [(83,qr),(84,tM),(42,hJ)]
def IK (x:Contract)(r:Bool):St→Prop:=QF Dd Tryz.f55 [false] (Dc x) (De r)
theorem KY (c_1:Contract):cD Dd 0 (IK c_1) (cL (cL (cR (cL (cR vV))))) 0 (ta c_1) (fun u=>(sT 34 [(1,.hp 1 0 [] 2 0 0)] [⟨0,2,[ak c_1]⟩] 2)) fun x2=>(sT 34 [(1,.hp 1 0 [] 2 0 0),(3,I x2)] [⟨0,2,[ak c_1]⟩] 2):=ey (yA c_1) fun {Q K} hK self ih x2 y h hr hn=>by
 unfold kT at h
 refine cq 6 [4,6] [I x2,.isl false (c_1.Parties.map str)] 50 ?_
 refine oq 66 (I (len c_1.Parties)) rfl (bG rfl rfl rfl (cH rfl)) ?_
 refine cq 2 [8] [B (decide (x2<(len c_1.Parties)))] 82 ?_
 refine sq h ?_ ?_<;>intro h
 ·refine aq 1 ?_
  refine aq 3 ?_
  refine fa [0,1,0,7,15,31,63,127,255,511,255,2047,255,4351,255,28927,61695,131071,262143] rfl (by decide +kernel) ?_
  refine dq [1] [] (.hp 1 0 [] 2 0 0) rfl (dM rfl rfl rfl) ?_
  refine dq [1] [] (.isl false (c_1.Parties.map str)) rfl (cF rfl rfl) ?_
  refine dk 1 [13] [I x2] ?_
  obtain⟨e3,he3,h⟩:=bS h
  refine dq [] [] (.iptr (str e3) 0) rfl (ao rfl rfl rfl (bH rfl rfl rfl rfl he3)) ?_
  refine dq [] [] (str e3) rfl (cF rfl rfl) ?_
  obtain⟨r4,hr4,h⟩:=bS h
  refine dq [] [] (B r4) rfl (cP (vD hr4)) ?_ (dY rfl rfl rfl rfl (bm (bK rfl) cy) (vD hr4) (.inr rfl) rfl)
  refine dk 2 [18,17] [B (!r4),B (!r4)] ?_
  obtain⟨y5,hy5,hy51,hy52⟩:=bL h
  have j5:∀u5,y5=.inr u5→Run Dd 0 Q (.code (cR (cL (cL (cR (cL (cL (cR (cL (cR vV)))))))))::.blk 1::.code (cR (cR (cL (cL (cR (cL (cR vV)))))))::.lp (cL (cL (cR (cL (cR vV)))))::.blk 0::K) (sT 34 [(1,.hp 1 0 [] 2 0 0),(3,I x2),(29,B u5)] [⟨0,2,[ak c_1]⟩] 2):=by
   intro u5 hu
   replace h:=hy52 u5 hu
   refine sq h ?_ ?_<;>intro h
   ·refine cq 4 [2] [B false] 18 ?_
    exact bR rfl (hr _ (ap h) _ (qp [B false]))
   ·refine aq 1 ?_
    refine cq 6 [3] [I (aj (x2+1))] 50 ?_
    refine cZ ?_
    exact rf [1,3] [1] (ih _ _ h hr hn :)
  have r5:∀r',y5=.inl r'→∀st,IK c_1 r' st→Q st:=fun r' e st hq=>hr r' (hy51 r' e) st hq
  replace h:=hy5
  refine sp 18 h rfl ?_ ?_<;>intro h
  ·refine dk 11 [29,28,27,26,25,24,23,22,21,20,19] [B true,.und,.und,.und,.und,.und,.und,.und,.und,.und,.und] ?_
   refine de 386 rfl rfl ?_
   exact rf [1,3,29] [1] (j5 _ (ap h) :)
  ·refine dy [1] [] (.hp 1 0 [] 2 0 0) rfl (dM rfl rfl rfl) ?_
   refine dy [1] [] (.isl false (c_1.Parties.map str)) rfl (cF rfl rfl) ?_
   refine dk 1 [21] [I x2] ?_
   obtain⟨s6,hs6,h⟩:=bS h
   refine dy [] [] (.isl false (s6.map str)) rfl (io rfl rfl rfl rfl (QW rfl rfl (fun y=>(iX y).1) rfl rfl hs6)) ?_
   refine dy [1] [] (.hp 1 0 [] 2 0 0) rfl (dM rfl rfl rfl) ?_
   refine dy [1] [] (.isl false (c_1.Parties.map str)) rfl (cF rfl rfl) ?_
   refine dk 1 [25] [I x2] ?_
   obtain⟨e7,he7,h⟩:=bS h
   refine dy [] [] (.iptr (str e7) 0) rfl (ao rfl rfl rfl (bH rfl rfl rfl rfl he7)) ?_
   refine dy [] [] (str e7) rfl (cF rfl rfl) ?_
   obtain⟨r8,hr8,h⟩:=bS h
   refine dy [] [] (B r8) rfl (cP (Iy hr8)) ?_ (dY rfl rfl rfl rfl (bm (bK rfl) (bm (bK rfl) cy)) (Iy hr8) (.inr rfl) rfl)
   refine dk 1 [29] [B r8] ?_
   refine de 386 rfl rfl ?_
   exact rf [1,3,29] [1] (j5 _ (ap h) :)
 ·refine aq 1 ?_
  exact rf [1] [1] (hn _ (ap h) :) (hk:=hK)
theorem Si (c_1:Contract)(r:Bool)(h:vU c_1=some r):bT Dd Tryz.f55 [false] 0 (Dc c_1) (De r):=by
 show Run _ _ (IK c_1 r) [.code vV] _
 refine rI 34 [(0,ak c_1)] [] 1 ?_
 unfold vU at h
 refine ck 11 [1,3] [] [1] [] [.hp 1 0 [] 2 0 0,I (0)] [some ⟨0,2,[ak c_1]⟩] 49 (by kernel_rfl) ?_
 obtain⟨y9,hy9,hy91,hy92⟩:=bJ h
 refine bZ rfl ?_
 refine rf [1,3] [1] (KY c_1 rfl 0 _ hy9 (fun r' e st hq=>by rw[hy91 r' e] at hq;exact hq) fun u9 hu=>?_)
 replace h:=hy92 u9 hu
 refine cq 4 [31] [.isl false (c_1.Parties.map str)] 34 ?_
 refine oq 50 (I (len c_1.Parties)) rfl (bG rfl rfl rfl (cH rfl)) ?_
 obtain⟨r10,hr10,h⟩:=bS h
 refine oq 66 (B r10) rfl (cP (gF hr10)) ?_
 refine cq 2 [2] [B r10] 82 ?_
 obtain rfl:=sI h
 exact rP [B r10]
theorem PJ {G:cO}:cM G 55 Au:=gT 1 0 (aU vE (aU FP (aU jA bX))) cY Tryz.func55 (fun a r h=>Si a r h)
def C0:(Contract×ac)→List V:=cA aO (oA str)
def C1 (r:Int):V×List V:=(I r,[])
noncomputable def tR :=bC [false,false] C0 C1 fun x=>tQ x.1 x.2
theorem II {c_1:Contract}{eK:ac}{r}(h:tQ c_1 eK=some r):tR.F (C0 (c_1,eK))=some (C1 r):=aQ (bB bN (aR bI)) h
noncomputable def PD :=aK Tryz.f56
noncomputable def IH :=cX []
def PC (x:Contract×ac)(r:Int):St→Prop:=QF IH Tryz.f56 [false,false] (C0 x) (C1 r)
theorem KV (c_1:Contract)(eK:ac):cD IH 0 (PC (c_1,eK)) (cL (cL (cR (cL (cR PD))))) 0 (sX c_1 eK) (fun u=>(sT 22 [] [] 1)) fun x3=>(sT 22 [(1,str eK),(2,.hp 1 0 [] 2 0 0),(5,I x3)] [⟨0,2,[ak c_1]⟩] 2):=ey (yx c_1 eK) fun {Q K} hK self ih x3 y h hr hn=>by
 unfold mN at h
 refine cq 6 [6,8] [I x3,.isl false (c_1.Clauses.map ar)] 50 ?_
 refine oq 66 (I (len c_1.Clauses)) rfl (bG rfl rfl rfl (cH rfl)) ?_
 refine cq 2 [10] [B (decide (x3<(len c_1.Clauses)))] 82 ?_
 refine sq h ?_ ?_<;>intro h
 ·refine aq 1 ?_
  refine cq 7 [14,15] [.isl false (c_1.Clauses.map ar),I x3] 130 ?_
  obtain⟨e4,he4,h⟩:=bS h
  refine oq 146 (.iptr (al e4) 0) rfl (ao rfl rfl rfl (bH rfl rfl rfl rfl he4)) ?_
  refine cq 5 [20] [B (e4.Id==eK)] 210 ?_
  refine sq h ?_ ?_<;>intro h
  ·refine cq 5 [4] [I x3] 242 ?_
   exact bR rfl (hr _ (ap h) _ (qp [I x3]))
  ·refine aq 1 ?_
   refine cq 6 [5] [I (aj (x3+1))] 258 ?_
   refine cZ ?_
   exact rf [1,2,5] [1] (ih _ _ h hr hn :)
 ·refine aq 1 ?_
  exact rf [] [] (hn _ (ap h) :) (hk:=hK)
theorem Sf (c_1:Contract)(eK:ac)(r:Int)(h:tQ c_1 eK=some r):bT IH Tryz.f56 [false,false] 0 (C0 (c_1,eK)) (C1 r):=by
 show Run _ _ (PC (c_1,eK) r) [.code PD] _
 refine rI 22 [(0,ak c_1),(1,str eK)] [] 1 ?_
 unfold tQ at h
 refine ck 11 [2,5] [] [1] [] [.hp 1 0 [] 2 0 0,I (0)] [some ⟨0,2,[ak c_1]⟩] 49 (by kernel_rfl) ?_
 obtain⟨y5,hy5,hy51,hy52⟩:=bJ h
 refine bZ rfl ?_
 refine rf [1,2,5] [1] (KV c_1 eK rfl 0 _ hy5 (fun r' e st hq=>by rw[hy51 r' e] at hq;exact hq) fun u5 hu=>?_)
 replace h:=hy52 u5 hu
 refine cq 4 [4] [I (-1)] 17 ?_
 obtain rfl:=sI h
 exact rP [I (-1)]
theorem FR {G:cO}:cM G 56 tR:=gT 2 0 bX cY Tryz.func56 (fun a r h=>Sf a.1 a.2 r h)
def Cr:Int→List V:=oA I
def Ct (r:Bool):V×List V:=(B r,[])
noncomputable def zY :=bC [false] Cr Ct fun x=>ES x
theorem Wu {gE:Int}{r}(h:ES gE=some r):zY.F (Cr gE)=some (Ct r):=aQ (aR cu) h
noncomputable def Ww :=aK Tryz.f146
noncomputable def Pc :=cX [(42,hJ)]
def Wv (x:Int)(r:Bool):St→Prop:=QF Pc Tryz.f146 [false] (Cr x) (Ct r)
theorem RS (gE:Int)(r:Bool)(h:ES gE=some r):bT Pc Tryz.f146 [false] 0 (Cr gE) (Ct r):=by
 show Run _ _ (Wv gE r) [.code Ww] _
 refine rI 5 [(0,I gE)] [] 1 ?_
 unfold ES at h
 refine cq 7 [3] [I gE] 33 ?_
 obtain⟨r2,hr2,h⟩:=bS h
 refine oq 49 (B r2) rfl (cP (gF hr2)) ?_
 refine cq 2 [2] [B r2] 65 ?_
 obtain rfl:=sI h
 exact rP [B r2]
theorem Pd {G:cO}:cM G 146 zY:=gT 1 0 (aU jA bX) cY Tryz.func146 (fun a r h=>RS a r h)
def Cw:Condition→List V:=oA aE
def Cx (r:Bool):V×List V:=(B r,[])
noncomputable def Ab :=bC [false] Cw Cx fun x=>Aa x
theorem Wx {c_1:Condition}{r}(h:Aa c_1=some r):Ab.F (Cw c_1)=some (Cx r):=aQ (aR bf) h
noncomputable def nf :=aK Tryz.f129
noncomputable abbrev jf :=cR (cR (cR nf))
noncomputable abbrev Ly :=cR (cL (cR (cR (cR (cL (cR (cL (cR (cR nf)))))))))
noncomputable abbrev Lz :=cR (cL (cR (cR (cR (cR (cR (cL (cR (cL (cR (cR nf)))))))))))
noncomputable abbrev LA :=cR (cL (cR (cR (cR (cR (cR (cR (cR (cL (cR (cL (cR (cR nf)))))))))))))
noncomputable abbrev LB :=cR (cL (cR (cR (cR (cR (cR (cR (cR (cR (cR (cL (cR (cL (cR (cR nf)))))))))))))))
noncomputable def je :=cX [(83,qr),(146,zY)]
def gk (x:Condition)(r:Bool):St→Prop:=QF je Tryz.f129 [false] (Cw x) (Cx r)
theorem RV (c_1:Condition)(r:Bool)(h:Aa c_1=some r):bT je Tryz.f129 [false] 0 (Cw c_1) (Cx r):=by
 show Run _ _ (gk c_1 r) [.code nf] _
 refine rI 80 [(0,aa c_1)] [] 1 ?_
 unfold Aa at h
 refine ck 9 [1,5] [] [1] [] [.hp 1 0 [] 4 0 0,.isl false (c_1.Parts.map au)] [some ⟨0,4,[aa c_1]⟩] 65 (by kernel_rfl) ?_
 refine oq 81 (I (len c_1.Parts)) rfl (bG rfl rfl rfl (cH rfl)) ?_
 refine cq 14 [3,8,9] [I (len c_1.Parts),I c_1.Op,B (c_1.Op==1)] 161 ?_
 refine sq h ?_ ?_<;>intro h
 ·refine cq 5 [13] [B ((len c_1.Parts)==0)] 209 ?_
  obtain⟨u2,hu2,h⟩:=lJ h
  have j2:Run je 0 (gk c_1 r) (.code (cR (cL (cR (cL (cR (cL (cR (cR nf))))))))::.blk 0::.code jf::[]) (sT 80 [(2,B u2)] [] 1):=by
   obtain rfl:=sI h
   exact rP [B u2]
  replace h:=hu2
  clear hu2
  refine sp 13 h rfl ?_ ?_<;>intro h
  ·refine cq 5 [18] [B (c_1.Name==([]:ac))] 289 ?_
   obtain⟨u3,hu3,h⟩:=lJ h
   have j3:Run je 0 (gk c_1 r) (.code (cR (cL (cR (cL (cR (cL (cR (cR nf))))))))::.blk 0::.code jf::[]) (sT 80 [(2,B u3)] [] 1):=by
    subst h
    exact rf [2] [] (j2 :)
   replace h:=hu3
   clear hu3
   refine sp 18 h rfl ?_ ?_<;>intro h
   ·refine cq 6 [2] [B (c_1.Day==0)] 369 ?_
    subst h
    exact rf [2] [] (j3 :)
   ·refine cq 6 [2] [B false] 369 ?_
    subst h
    exact rf [2] [] (j3 :)
  ·refine cq 11 [2] [B false] 369 ?_
   subst h
   exact rf [2] [] (j2 :)
 ·refine cq 5 [23] [B (c_1.Op==2)] 193 ?_
  refine sq h ?_ ?_<;>intro h
  ·refine cq 5 [27] [B ((len c_1.Parts)==0)] 241 ?_
   obtain⟨y4,hy4,hy41,hy42⟩:=bJ h
   have j4:∀u4,y4=.inr u4→Run je 0 (gk c_1 r) (.code Ly::.blk 0::.code jf::[]) (sT 80 [(2,B u4)] [] 1):=by
    intro u4 hu
    replace h:=hy42 u4 hu
    obtain rfl:=sI h
    exact rP [B u4]
   have r4:∀r',y4=.inl r'→∀st,gk c_1 r' st→(gk c_1 r) st:=fun r' e st hq=>by rw[hy41 r' e] at hq;exact hq
   replace h:=hy4
   refine sp 27 h rfl ?_ ?_<;>intro h
   ·refine cq 2 [29] [str c_1.Name] 273 ?_
    obtain⟨r5,hr5,h⟩:=bS h
    refine oy 289 (B r5) rfl (cP (vD hr5)) ?_
    refine cq 2 [32] [B r5] 321 ?_
    obtain⟨u6,hu6,h⟩:=lJ h
    have j6:Run je 0 (gk c_1 r) (.code Ly::.blk 0::.code jf::[]) (sT 80 [(2,B u6)] [] 1):=by
     exact rf [2] [] (j4 _ (ap h) :)
    replace h:=hu6
    clear hu6
    refine sp 32 h rfl ?_ ?_<;>intro h
    ·refine cq 6 [2] [B (c_1.Day==0)] 401 ?_
     subst h
     exact rf [2] [] (j6 :)
    ·refine cq 6 [2] [B false] 401 ?_
     subst h
     exact rf [2] [] (j6 :)
   ·refine cq 11 [2] [B false] 401 ?_
    exact rf [2] [] (j4 _ (ap h) :)
  ·refine cq 5 [37] [B (c_1.Op==3)] 225 ?_
   refine sq h ?_ ?_<;>intro h
   ·refine cq 5 [41] [B ((len c_1.Parts)==0)] 273 ?_
    obtain⟨y7,hy7,hy71,hy72⟩:=bJ h
    have j7:∀u7,y7=.inr u7→Run je 0 (gk c_1 r) (.code Lz::.blk 0::.code jf::[]) (sT 80 [(2,B u7)] [] 1):=by
     intro u7 hu
     replace h:=hy72 u7 hu
     obtain rfl:=sI h
     exact rP [B u7]
    have r7:∀r',y7=.inl r'→∀st,gk c_1 r' st→(gk c_1 r) st:=fun r' e st hq=>by rw[hy71 r' e] at hq;exact hq
    replace h:=hy7
    refine sp 41 h rfl ?_ ?_<;>intro h
    ·refine cq 5 [46] [B (c_1.Name==([]:ac))] 353 ?_
     obtain⟨y8,hy8,hy81,hy82⟩:=bL h
     have j8:∀u8,y8=.inr u8→Run je 0 (gk c_1 r) (.code Lz::.blk 0::.code jf::[]) (sT 80 [(2,B u8)] [] 1):=by
      intro u8 hu
      replace h:=hy82 u8 hu
      exact rf [2] [] (j7 _ (ap h) :)
     have r8:∀r',y8=.inl r'→∀st,gk c_1 r' st→(gk c_1 r) st:=fun r' e st hq=>r7 r' (hy81 r' e) st hq
     replace h:=hy8
     refine sp 46 h rfl ?_ ?_<;>intro h
     ·refine cq 2 [48] [I c_1.Day] 385 ?_
      obtain⟨r9,hr9,h⟩:=bS h
      refine oy 401 (B r9) rfl (cP (Wu hr9)) ?_
      refine cq 3 [2] [B r9] 433 ?_
      exact rf [2] [] (j8 _ (ap h) :)
     ·refine cq 6 [2] [B false] 433 ?_
      exact rf [2] [] (j8 _ (ap h) :)
    ·refine cq 11 [2] [B false] 433 ?_
     exact rf [2] [] (j7 _ (ap h) :)
   ·refine cq 5 [51] [B (c_1.Op==4)] 257 ?_
    refine sq h ?_ ?_<;>intro h
    ·refine cq 5 [55] [B ((len c_1.Parts)==1)] 305 ?_
     obtain⟨u10,hu10,h⟩:=lJ h
     have j10:Run je 0 (gk c_1 r) (.code LA::.blk 0::.code jf::[]) (sT 80 [(2,B u10)] [] 1):=by
      obtain rfl:=sI h
      exact rP [B u10]
     replace h:=hu10
     clear hu10
     refine sp 55 h rfl ?_ ?_<;>intro h
     ·refine cq 5 [60] [B (c_1.Name==([]:ac))] 385 ?_
      obtain⟨u11,hu11,h⟩:=lJ h
      have j11:Run je 0 (gk c_1 r) (.code LA::.blk 0::.code jf::[]) (sT 80 [(2,B u11)] [] 1):=by
       subst h
       exact rf [2] [] (j10 :)
      replace h:=hu11
      clear hu11
      refine sp 60 h rfl ?_ ?_<;>intro h
      ·refine cq 6 [2] [B (c_1.Day==0)] 465 ?_
       subst h
       exact rf [2] [] (j11 :)
      ·refine cq 6 [2] [B false] 465 ?_
       subst h
       exact rf [2] [] (j11 :)
     ·refine cq 11 [2] [B false] 465 ?_
      subst h
      exact rf [2] [] (j10 :)
    ·refine cq 6 [65] [B (c_1.Op==5)] 289 ?_
     obtain⟨u12,hu12,h⟩:=lJ h
     have j12:Run je 0 (gk c_1 r) (.code (cR (cR (cR (cR (cR (cR (cR (cR (cR (cL (cR (cL (cR (cR nf))))))))))))))::.blk 0::.code jf::[]) (sT 80 [(1,.hp 1 0 [] 4 0 0),(3,I (len c_1.Parts)),(65,B u12)] [⟨0,4,[aa c_1]⟩] 2):=by
      refine sq h ?_ ?_<;>intro h
      ·refine cq 5 [70] [B ((len c_1.Parts)==2)] 50 ?_
       obtain⟨u13,hu13,h⟩:=lJ h
       have j13:Run je 0 (gk c_1 r) (.code LB::.blk 0::.code jf::[]) (sT 80 [(2,B u13)] [] 1):=by
        obtain rfl:=sI h
        exact rP [B u13]
       replace h:=hu13
       clear hu13
       refine sp 70 h rfl ?_ ?_<;>intro h
       ·refine cq 5 [75] [B (c_1.Name==([]:ac))] 130 ?_
        obtain⟨u14,hu14,h⟩:=lJ h
        have j14:Run je 0 (gk c_1 r) (.code LB::.blk 0::.code jf::[]) (sT 80 [(2,B u14)] [] 1):=by
         subst h
         exact rf [2] [] (j13 :)
        replace h:=hu14
        clear hu14
        refine sp 75 h rfl ?_ ?_<;>intro h
        ·refine cq 6 [2] [B (c_1.Day==0)] 210 ?_
         subst h
         exact rf [2] [] (j14 :)
        ·refine cq 6 [2] [B false] 210 ?_
         subst h
         exact rf [2] [] (j14 :)
       ·refine cq 11 [2] [B false] 210 ?_
        subst h
        exact rf [2] [] (j13 :)
      ·refine aq 1 ?_
       refine cq 5 [2] [B false] 18 ?_
       obtain rfl:=sI h
       exact rP [B false]
     replace h:=hu12
     clear hu12
     refine EC h rfl rfl ?_ ?_<;>intro h
     ·refine aq 1 ?_
      subst h
      exact rf [1,3,65] [1] (j12 :)
     ·refine cq 4 [65] [B (c_1.Op==6)] 321 ?_
      subst h
      exact rf [1,3,65] [1] (j12 :)
theorem Ph {G:cO}:cM G 129 Ab:=gT 1 0 (aU vE (aU Pd bX)) cY Tryz.func129 (fun a r h=>RV a r h)
def vw:Condition→List V:=oA aE
def vx (r:Bool):V×List V:=(B r,[])
noncomputable def vy (ce:Condition→Option Bool):Ent:=bC [false] vw vx ce
theorem LC (ce:Condition→Option Bool){x}{r}(h:ce x=some r):(vy ce).F (vw x)=some (vx r):=aQ (aR bf) h
noncomputable def Ac :=vy (aA qo)
theorem Wy {c_1:Condition}{r}(h:ET c_1=some r):Ac.F (vw c_1)=some (vx r):=LC (aA qo) h
noncomputable def Pj :=aK Tryz.f107
noncomputable def Iv (ce:Condition→Option Bool):Env:=cX [(129,Ab),(107,(vy ce))]
def Pi (ce:Condition→Option Bool)(x:Condition)(r:Bool):St→Prop:=QF (Iv ce) Tryz.f107 [false] (vw x) (vx r)
theorem KM (ce:Condition→Option Bool)(c_1:Condition):cD (Iv ce) 0 (Pi ce c_1) (cL (cL (cR (cL (cR (cR Pj)))))) 0 (qc ce c_1) (fun u=>(sT 21 [] [] 1)) fun x3=>(sT 21 [(1,.hp 1 0 [] 4 0 0),(3,I x3)] [⟨0,4,[aa c_1]⟩] 2):=ey (yj ce c_1) fun {Q K} hK self ih x3 y h hr hn=>by
 unfold kK at h
 refine cq 6 [7,9] [I x3,.isl false (c_1.Parts.map au)] 50 ?_
 refine oq 66 (I (len c_1.Parts)) rfl (bG rfl rfl rfl (cH rfl)) ?_
 refine cq 2 [11] [B (decide (x3<(len c_1.Parts)))] 82 ?_
 refine sq h ?_ ?_<;>intro h
 ·refine aq 1 ?_
  refine cq 7 [15,16] [.isl false (c_1.Parts.map au),I x3] 130 ?_
  obtain⟨e4,he4,h⟩:=bS h
  refine oq 146 (.iptr (aa e4) 0) rfl (ao rfl rfl rfl (bH rfl rfl (bd e4) rfl he4)) ?_
  refine cq 1 [18] [aa e4] 162 ?_
  obtain⟨r5,hr5,h⟩:=bS h
  refine oq 178 (B r5) rfl (aW rfl rfl (bv rfl rfl rfl (bm (bK rfl) cy) (LC ce hr5) (.inr rfl) cI rfl rfl rfl)) ?_
  refine cq 2 [20] [B (!r5)] 194 ?_
  refine sq h ?_ ?_<;>intro h
  ·refine cq 4 [2] [B false] 210 ?_
   exact bR rfl (hr _ (ap h) _ (qp [B false]))
  ·refine aq 1 ?_
   refine cq 6 [3] [I (aj (x3+1))] 242 ?_
   refine cZ ?_
   exact rf [1,3] [1] (ih _ _ h hr hn :)
 ·refine aq 1 ?_
  exact rf [] [] (hn _ (ap h) :) (hk:=hK)
theorem RY (ce:Condition→Option Bool)(c_1:Condition)(r:Bool)(h:sM ce c_1=some r):bT (Iv ce) Tryz.f107 [false] 0 (vw c_1) (vx r):=by
 show Run _ _ (Pi ce c_1 r) [.code Pj] _
 refine rI 21 [(0,aa c_1)] [] 1 ?_
 unfold sM at h
 refine ck 9 [1,4] [] [1] [] [.hp 1 0 [] 4 0 0,aa c_1] [some ⟨0,4,[aa c_1]⟩] 49 (by kernel_rfl) ?_
 obtain⟨r2,hr2,h⟩:=bS h
 refine oq 65 (B r2) rfl (cP (Wx hr2)) ?_
 refine cq 2 [6] [B (!r2)] 81 ?_
 refine sq h ?_ ?_<;>intro h
 ·refine cq 4 [2] [B false] 97 ?_
  obtain rfl:=sI h
  exact rP [B false]
 ·refine aq 1 ?_
  refine cq 6 [3] [I (0)] 97 ?_
  obtain⟨y6,hy6,hy61,hy62⟩:=bJ h
  refine bZ rfl ?_
  refine rf [1,3] [1] (KM ce c_1 rfl 0 _ hy6 (fun r' e st hq=>by rw[hy61 r' e] at hq;exact hq) fun u6 hu=>?_)
  replace h:=hy62 u6 hu
  refine cq 4 [2] [B true] 17 ?_
  obtain rfl:=sI h
  exact rP [B true]
theorem Pk {G:cO}:cM G 107 Ac:=gx fun ce g_Ffcm=>gT 1 0 (aU Ph (aU g_Ffcm bX)) cY Tryz.func107 (fun a r h=>RY ce a r h)
def vO:Condition→List V:=oA aE
def vP (r:Int):V×List V:=(I r,[])
noncomputable def vQ (cg:Condition→Option Int):Ent:=bC [false] vO vP cg
theorem LG (cg:Condition→Option Int){x}{r}(h:cg x=some r):(vQ cg).F (vO x)=some (vP r):=aQ (aR bf) h
noncomputable def Ak :=vQ (aA kP)
theorem WC {c_1:Condition}{r}(h:IC c_1=some r):Ak.F (vO c_1)=some (vP r):=LG (aA kP) h
noncomputable def Pw :=aK Tryz.f108
noncomputable def ID (cg:Condition→Option Int):Env:=cX [(108,(vQ cg))]
def Pv (cg:Condition→Option Int)(x:Condition)(r:Int):St→Prop:=QF (ID cg) Tryz.f108 [false] (vO x) (vP r)
theorem KT (cg:Condition→Option Int)(c_1:Condition):cD (ID cg) 0 (Pv cg c_1) (cL (cL (cR (cL (cR (cR Pw)))))) 0 (lw cg c_1) (fun u=>(sT 21 [(3,I u)] [] 1)) fun x2=>(sT 21 [(1,.hp 1 0 [] 4 0 0),(3,I x2.1),(4,I x2.2)] [⟨0,4,[aa c_1]⟩] 2):=ey (yu cg c_1) fun {Q K} hK self ih x2 y h hr hn=>by
 unfold jH at h
 refine cq 6 [5,7] [I x2.2,.isl false (c_1.Parts.map au)] 50 ?_
 refine oq 66 (I (len c_1.Parts)) rfl (bG rfl rfl rfl (cH rfl)) ?_
 refine cq 2 [9] [B (decide (x2.2<(len c_1.Parts)))] 82 ?_
 refine sq h ?_ ?_<;>intro h
 ·refine aq 1 ?_
  refine cq 7 [12,14,15] [I x2.1,.isl false (c_1.Parts.map au),I x2.2] 146 ?_
  obtain⟨e3,he3,h⟩:=bS h
  refine oq 162 (.iptr (aa e3) 0) rfl (ao rfl rfl rfl (bH rfl rfl (bd e3) rfl he3)) ?_
  refine cq 1 [17] [aa e3] 178 ?_
  obtain⟨r4,hr4,h⟩:=bS h
  refine oq 194 (I r4) rfl (aW rfl rfl (bv rfl rfl rfl (bm (bK rfl) cy) (LG cg hr4) (.inr rfl) cI rfl rfl rfl)) ?_
  refine cq 9 [3,4] [I (aj (x2.1+r4)),I (aj (x2.2+1))] 274 ?_
  refine cZ ?_
  exact rf [1,3,4] [1] (ih _ _ h hr hn :)
 ·refine aq 1 ?_
  exact rf [3] [] (hn _ (ap h) :) (hk:=hK)
theorem Sc (cg:Condition→Option Int)(c_1:Condition)(r:Int)(h:sV cg c_1=some r):bT (ID cg) Tryz.f108 [false] 0 (vO c_1) (vP r):=by
 show Run _ _ (Pv cg c_1 r) [.code Pw] _
 refine rI 21 [(0,aa c_1)] [] 1 ?_
 unfold sV at h
 refine ck 15 [1,3,4] [] [1] [] [.hp 1 0 [] 4 0 0,I (1),I (0)] [some ⟨0,4,[aa c_1]⟩] 65 (by kernel_rfl) ?_
 obtain⟨y5,hy5,hy51,hy52⟩:=bJ h
 refine bZ rfl ?_
 refine rf [1,3,4] [1] (KT cg c_1 rfl (1,0) _ hy5 (fun r' e st hq=>by rw[hy51 r' e] at hq;exact hq) fun u5 hu=>?_)
 replace h:=hy52 u5 hu
 refine cq 5 [2] [I u5] 33 ?_
 obtain rfl:=sI h
 exact rP [I u5]
theorem Px {G:cO}:cM G 108 Ak:=gx fun cg g_Ffcv=>gT 1 0 (aU g_Ffcv bX) cY Tryz.func108 (fun a r h=>Sc cg a r h)
def Cy:Condition→List V:=oA aE
def CA (r:Bool):V×List V:=(B r,[])
noncomputable def Af :=bC [false] Cy CA fun x=>Ae x
theorem Wz {c_1:Condition}{r}(h:Ae c_1=some r):Af.F (Cy c_1)=some (CA r):=aQ (aR bf) h
noncomputable def Pm :=aK Tryz.f85
noncomputable def Iw :=cX [(107,Ac),(108,Ak)]
def Cz (x:Condition)(r:Bool):St→Prop:=QF Iw Tryz.f85 [false] (Cy x) (CA r)
theorem RZ (c_1:Condition)(r:Bool)(h:Ae c_1=some r):bT Iw Tryz.f85 [false] 0 (Cy c_1) (CA r):=by
 show Run _ _ (Cz c_1 r) [.code Pm] _
 refine rI 10 [(0,aa c_1)] [] 1 ?_
 unfold Ae at h
 refine ck 8 [1,3] [] [1] [] [.hp 1 0 [] 4 0 0,aa c_1] [some ⟨0,4,[aa c_1]⟩] 49 (by kernel_rfl) ?_
 obtain⟨r2,hr2,h⟩:=bS h
 refine oq 65 (B r2) rfl (cP (Wy hr2)) ?_
 refine cq 1 [5] [B r2] 81 ?_
 obtain⟨y3,hy3,hy31,hy32⟩:=bJ h
 have j3:∀u3,y3=.inr u3→Run Iw 0 (Cz c_1 r) (.code (cR (cR Pm))::[]) (sT 10 [(2,B u3)] [] 1):=by
  intro u3 hu
  replace h:=hy32 u3 hu
  obtain rfl:=sI h
  exact rP [B u3]
 have r3:∀r',y3=.inl r'→∀st,Cz c_1 r' st→(Cz c_1 r) st:=fun r' e st hq=>by rw[hy31 r' e] at hq;exact hq
 replace h:=hy3
 refine sp 5 h rfl ?_ ?_<;>intro h
 ·refine cq 1 [6] [aa c_1] 97 ?_
  obtain⟨r4,hr4,h⟩:=bS h
  refine oy 113 (I r4) rfl (cP (WC hr4)) ?_
  refine cq 4 [2] [B (decide (r4≤15))] 161 ?_
  exact rf [2] [] (j3 _ (ap h) :)
 ·refine cq 6 [2] [B false] 161 ?_
  exact rf [2] [] (j3 _ (ap h) :)
theorem Pn {G:cO}:cM G 85 Af:=gT 1 0 (aU Pk (aU Px bX)) cY Tryz.func85 (fun a r h=>RZ a r h)
def CY:(Contract×Int)→List V:=cA aO (oA I)
def CZ (r:Bool):V×List V:=(B r,[])
noncomputable def An :=bC [false,false] CY CZ fun x=>Am x.1 x.2
theorem PA {c_1:Contract}{i_2:Int}{r}(h:Am c_1 i_2=some r):An.F (CY (c_1,i_2))=some (CZ r):=aQ (bB bN (aR cu)) h
noncomputable def IG :=aK Tryz.f57
noncomputable abbrev mM :=cR (cR (cR (cR IG)))
noncomputable abbrev qg :=cR (cL (cR (cR (cR IG))))
noncomputable abbrev sW :=cR mM
noncomputable abbrev wU :=cR (cL mM)
noncomputable abbrev EW :=cR (cR (cR sW))
noncomputable def iu :=cX [(83,qr),(42,hJ),(56,tR),(85,Af)]
def d4 (x:Contract×Int)(r:Bool):St→Prop:=QF iu Tryz.f57 [false,false] (CY x) (CZ r)
theorem Se (c_1:Contract)(i_2:Int)(r:Bool)(h:Am c_1 i_2=some r):bT iu Tryz.f57 [false,false] 0 (CY (c_1,i_2)) (CZ r):=by
 show Run _ _ (d4 (c_1,i_2) r) [.code IG] _
 refine rI 114 [(0,ak c_1),(1,I i_2)] [] 1 ?_
 unfold Am at h
 refine ck 10 [2,9,10] [] [1] [] [.hp 1 0 [] 2 0 0,.isl false (c_1.Clauses.map ar),I i_2] [some ⟨0,2,[ak c_1]⟩] 81 (by kernel_rfl) ?_
 obtain⟨e3,he3,h⟩:=bS h
 refine oq 97 (.iptr (al e3) 0) rfl (ao rfl rfl rfl (bH rfl rfl rfl rfl he3)) ?_
 refine ck 2 [5,12] [] [113] [] [.hp 113 0 [] 12 0 0,al e3] [some ⟨0,12,[.agg [str ([]),I (0),I (0),str ([]),I (0),I (0),I (0),str ([]),I (0),.isl true [],I (0),str ([])]]⟩] 129 (by kernel_rfl) ?_
 refine fK 113 [.agg [str ([]),I (0),I (0),str ([]),I (0),I (0),I (0),str ([]),I (0),.usl 4 (([]).map ae),I (0),str ([])]] rfl rfl (aD (gI (aD (.refl _) (aD (.refl _) (aD (.refl _) (aD (.refl _) (aD (.refl _) (aD (.refl _) (aD (.refl _) (aD (.refl _) (aD (.refl _) (aD (.nil _) (aD (.refl _) (aD (.refl _) eD))))))))))))) eD) ?_
 refine ck 6 [14] [] [113] [] [.isl false (c_1.Parties.map str)] [some ⟨2,12,[al e3]⟩] 177 (by kernel_rfl) ?_
 refine oq 193 (I (len c_1.Parties)) rfl (bG rfl rfl rfl (cH rfl)) ?_
 refine cq 7 [6,17] [I (len c_1.Parties),str e3.Id] 241 ?_
 obtain⟨r4,hr4,h⟩:=bS h
 refine oq 257 (B r4) rfl (cP (vD hr4)) ?_
 refine cq 2 [20] [B (!r4)] 289 ?_
 obtain⟨y5,hy5,hy51,hy52⟩:=bJ h
 have j5:∀u5,y5=.inr u5→Run iu 0 (d4 (c_1,i_2) r) (.code qg::.code mM::[]) (sT 114 [(1,I i_2),(2,.hp 1 0 [] 2 0 0),(5,.hp 2 0 [] 12 0 0),(60,B u5)] [⟨0,2,[ak c_1]⟩,⟨0,12,[al e3]⟩] 3):=by
  intro u5 hu
  replace h:=hy52 u5 hu
  refine sq h ?_ ?_<;>intro h
  ·refine cq 4 [4] [B false] 19 ?_
   obtain rfl:=sI h
   exact rP [B false]
  ·refine aq 1 ?_
   refine cq 5 [62] [I e3.Amount] 35 ?_
   obtain⟨r6,hr6,h⟩:=bS h
   refine oq 51 (B r6) rfl (cP (gF hr6)) ?_
   refine cq 2 [65] [B (!r6)] 83 ?_
   obtain⟨y7,hy7,hy71,hy72⟩:=bJ h
   have j7:∀u7,y7=.inr u7→Run iu 0 (d4 (c_1,i_2) r) (.code wU::.code sW::[]) (sT 114 [(1,I i_2),(2,.hp 1 0 [] 2 0 0),(5,.hp 2 0 [] 12 0 0),(85,B u7)] [⟨0,2,[ak c_1]⟩,⟨0,12,[al e3]⟩] 3):=by
    intro u7 hu
    replace h:=hy72 u7 hu
    refine sq h ?_ ?_<;>intro h
    ·refine cq 4 [4] [B false] 19 ?_
     obtain rfl:=sI h
     exact rP [B false]
    ·refine aq 1 ?_
     refine cq 7 [88] [B (e3.Repair==([]:ac))] 51 ?_
     refine sq h ?_ ?_<;>intro h
     ·refine cq 4 [4] [B true] 67 ?_
      obtain rfl:=sI h
      exact rP [B true]
     ·refine aq 1 ?_
      refine cq 5 [89,91] [ak c_1,str e3.Repair] 99 ?_
      obtain⟨r8,hr8,h⟩:=bS h
      refine oq 115 (I r8) rfl (cP (II hr8)) ?_
      refine cq 7 [7,95] [I r8,B (decide (r8≥0))] 179 ?_
      obtain⟨y9,hy9,hy91,hy92⟩:=bJ h
      have j9:∀u9,y9=.inr u9→Run iu 0 (d4 (c_1,i_2) r) (.code EW::[]) (sT 114 [(4,B u9)] [] 1):=by
       intro u9 hu
       replace h:=hy92 u9 hu
       obtain rfl:=sI h
       exact rP [B u9]
      have r9:∀r',y9=.inl r'→∀st,d4 (c_1,i_2) r' st→(d4 (c_1,i_2) r) st:=fun r' e st hq=>by rw[hy91 r' e] at hq;exact hq
      replace h:=hy9
      refine sp 95 h rfl ?_ ?_<;>intro h
      ·refine cq 5 [100] [B (r8 != i_2)] 259 ?_
       obtain⟨y10,hy10,hy101,hy102⟩:=bL h
       have j10:∀u10,y10=.inr u10→Run iu 0 (d4 (c_1,i_2) r) (.code EW::[]) (sT 114 [(4,B u10)] [] 1):=by
        intro u10 hu
        replace h:=hy102 u10 hu
        exact rf [4] [] (j9 _ (ap h) :)
       have r10:∀r',y10=.inl r'→∀st,d4 (c_1,i_2) r' st→(d4 (c_1,i_2) r) st:=fun r' e st hq=>r9 r' (hy101 r' e) st hq
       replace h:=hy10
       refine sp 100 h rfl ?_ ?_<;>intro h
       ·refine cq 3 [102,103] [.isl false (c_1.Clauses.map ar),I r8] 307 ?_
        obtain⟨e11,he11,h⟩:=bS h
        refine oy 323 (.iptr (al e11) 0) rfl (ao rfl rfl rfl (bH rfl rfl rfl rfl he11)) ?_
        refine cq 5 [109] [B (e11.Kind==1)] 403 ?_
        obtain⟨u12,hu12,h⟩:=lJ h
        have j12:Run iu 0 (d4 (c_1,i_2) r) (.code EW::[]) (sT 114 [(4,B u12)] [] 1):=by
         exact rf [4] [] (j10 _ (ap h) :)
        replace h:=hu12
        clear hu12
        refine sp 109 h rfl ?_ ?_<;>intro h
        ·refine cq 6 [4] [B (e3.Kind != 3)] 483 ?_
         subst h
         exact rf [4] [] (j12 :)
        ·refine cq 6 [4] [B false] 483 ?_
         subst h
         exact rf [4] [] (j12 :)
       ·refine cq 15 [4] [B false] 483 ?_
        exact rf [4] [] (j10 _ (ap h) :)
      ·refine cq 20 [4] [B false] 483 ?_
       exact rf [4] [] (j9 _ (ap h) :)
   have r7:∀r',y7=.inl r'→∀st,d4 (c_1,i_2) r' st→(d4 (c_1,i_2) r) st:=fun r' e st hq=>by rw[hy71 r' e] at hq;exact hq
   replace h:=hy7
   refine sp 65 h rfl ?_ ?_<;>intro h
   ·refine cq 21 [85] [B true] 403 ?_
    exact rf [1,2,5,85] [1,2] (j7 _ (ap h) :)
   ·refine cq 2 [67] [I e3.Within] 115 ?_
    obtain⟨r13,hr13,h⟩:=bS h
    refine oy 131 (B r13) rfl (cP (gF hr13)) ?_
    refine cq 3 [71] [B (!r13)] 179 ?_
    obtain⟨u14,hu14,h⟩:=lJ h
    have j14:Run iu 0 (d4 (c_1,i_2) r) (.code wU::.code sW::[]) (sT 114 [(1,I i_2),(2,.hp 1 0 [] 2 0 0),(5,.hp 2 0 [] 12 0 0),(85,B u14)] [⟨0,2,[ak c_1]⟩,⟨0,12,[al e3]⟩] 3):=by
     exact rf [1,2,5,85] [1,2] (j7 _ (ap h) :)
    replace h:=hu14
    clear hu14
    refine sp 71 h rfl ?_ ?_<;>intro h
    ·refine cq 15 [85] [B true] 403 ?_
     subst h
     exact rf [1,2,5,85] [1,2] (j14 :)
    ·refine cq 4 [75] [B (e3.Kind != 1)] 243 ?_
     obtain⟨u15,hu15,h⟩:=lJ h
     have j15:Run iu 0 (d4 (c_1,i_2) r) (.code wU::.code sW::[]) (sT 114 [(1,I i_2),(2,.hp 1 0 [] 2 0 0),(5,.hp 2 0 [] 12 0 0),(85,B u15)] [⟨0,2,[ak c_1]⟩,⟨0,12,[al e3]⟩] 3):=by
      subst h
      exact rf [1,2,5,85] [1,2] (j14 :)
     replace h:=hu15
     clear hu15
     refine sp 75 h rfl ?_ ?_<;>intro h
     ·refine cq 4 [79] [B (e3.Amount != 0)] 307 ?_
      obtain⟨u16,hu16,h⟩:=lJ h
      have j16:Run iu 0 (d4 (c_1,i_2) r) (.code wU::.code sW::[]) (sT 114 [(1,I i_2),(2,.hp 1 0 [] 2 0 0),(5,.hp 2 0 [] 12 0 0),(85,B u16)] [⟨0,2,[ak c_1]⟩,⟨0,12,[al e3]⟩] 3):=by
       subst h
       exact rf [1,2,5,85] [1,2] (j15 :)
      replace h:=hu16
      clear hu16
      refine sp 79 h rfl ?_ ?_<;>intro h
      ·refine cq 7 [85] [B true] 403 ?_
       subst h
       exact rf [1,2,5,85] [1,2] (j16 :)
      ·refine cq 7 [85] [B (e3.Within != 0)] 403 ?_
       subst h
       exact rf [1,2,5,85] [1,2] (j16 :)
     ·refine cq 11 [85] [B false] 403 ?_
      subst h
      exact rf [1,2,5,85] [1,2] (j15 :)
 have r5:∀r',y5=.inl r'→∀st,d4 (c_1,i_2) r' st→(d4 (c_1,i_2) r) st:=fun r' e st hq=>by rw[hy51 r' e] at hq;exact hq
 replace h:=hy5
 refine sp 20 h rfl ?_ ?_<;>intro h
 ·refine cq 41 [60] [B true] 929 ?_
  exact rf [1,2,5,60] [1,113] (j5 _ (ap h) :)
 ·refine cq 2 [22] [str e3.Action] 321 ?_
  obtain⟨r17,hr17,h⟩:=bS h
  refine oy 337 (B r17) rfl (cP (vD hr17)) ?_
  refine cq 3 [26] [B (!r17)] 385 ?_
  obtain⟨y18,hy18,hy181,hy182⟩:=bL h
  have j18:∀u18,y18=.inr u18→Run iu 0 (d4 (c_1,i_2) r) (.code qg::.code mM::[]) (sT 114 [(1,I i_2),(2,.hp 1 0 [] 2 0 0),(5,.hp 2 0 [] 12 0 0),(60,B u18)] [⟨0,2,[ak c_1]⟩,⟨0,12,[al e3]⟩] 3):=by
   intro u18 hu
   replace h:=hy182 u18 hu
   exact rf [1,2,5,60] [1,2] (j5 _ (ap h) :)
  have r18:∀r',y18=.inl r'→∀st,d4 (c_1,i_2) r' st→(d4 (c_1,i_2) r) st:=fun r' e st hq=>r5 r' (hy181 r' e) st hq
  replace h:=hy18
  refine sp 26 h rfl ?_ ?_<;>intro h
  ·refine cq 35 [60] [B true] 929 ?_
   exact rf [1,2,5,60] [1,113] (j18 _ (ap h) :)
  ·refine cq 2 [28] [I e3.Kind] 417 ?_
   obtain⟨r19,hr19,h⟩:=bS h
   refine oy 433 (B r19) rfl (cP (gF hr19)) ?_
   refine cq 3 [32] [B (!r19)] 481 ?_
   obtain⟨y20,hy20,hy201,hy202⟩:=bL h
   have j20:∀u20,y20=.inr u20→Run iu 0 (d4 (c_1,i_2) r) (.code qg::.code mM::[]) (sT 114 [(1,I i_2),(2,.hp 1 0 [] 2 0 0),(5,.hp 2 0 [] 12 0 0),(60,B u20)] [⟨0,2,[ak c_1]⟩,⟨0,12,[al e3]⟩] 3):=by
    intro u20 hu
    replace h:=hy202 u20 hu
    exact rf [1,2,5,60] [1,2] (j18 _ (ap h) :)
   have r20:∀r',y20=.inl r'→∀st,d4 (c_1,i_2) r' st→(d4 (c_1,i_2) r) st:=fun r' e st hq=>r18 r' (hy201 r' e) st hq
   replace h:=hy20
   refine sp 32 h rfl ?_ ?_<;>intro h
   ·refine cq 29 [60] [B true] 929 ?_
    exact rf [1,2,5,60] [1,113] (j20 _ (ap h) :)
   ·refine cq 4 [34,36] [I e3.Party,I (aj ((len c_1.Parties) - 1))] 545 ?_
    obtain⟨r21,hr21,h⟩:=bS h
    refine oy 561 (B r21) rfl (cP (gF hr21)) ?_
    refine cq 3 [40] [B (!r21)] 609 ?_
    obtain⟨y22,hy22,hy221,hy222⟩:=bL h
    have j22:∀u22,y22=.inr u22→Run iu 0 (d4 (c_1,i_2) r) (.code qg::.code mM::[]) (sT 114 [(1,I i_2),(2,.hp 1 0 [] 2 0 0),(5,.hp 2 0 [] 12 0 0),(60,B u22)] [⟨0,2,[ak c_1]⟩,⟨0,12,[al e3]⟩] 3):=by
     intro u22 hu
     replace h:=hy222 u22 hu
     exact rf [1,2,5,60] [1,2] (j20 _ (ap h) :)
    have r22:∀r',y22=.inl r'→∀st,d4 (c_1,i_2) r' st→(d4 (c_1,i_2) r) st:=fun r' e st hq=>r20 r' (hy221 r' e) st hq
    replace h:=hy22
    refine sp 40 h rfl ?_ ?_<;>intro h
    ·refine cq 21 [60] [B true] 929 ?_
     exact rf [1,2,5,60] [1,113] (j22 _ (ap h) :)
    ·refine cq 4 [42,44] [I e3.Other,I (aj ((len c_1.Parties) - 1))] 673 ?_
     obtain⟨r23,hr23,h⟩:=bS h
     refine oy 689 (B r23) rfl (cP (gF hr23)) ?_
     refine cq 3 [48] [B (!r23)] 737 ?_
     obtain⟨y24,hy24,hy241,hy242⟩:=bL h
     have j24:∀u24,y24=.inr u24→Run iu 0 (d4 (c_1,i_2) r) (.code qg::.code mM::[]) (sT 114 [(1,I i_2),(2,.hp 1 0 [] 2 0 0),(5,.hp 2 0 [] 12 0 0),(60,B u24)] [⟨0,2,[ak c_1]⟩,⟨0,12,[al e3]⟩] 3):=by
      intro u24 hu
      replace h:=hy242 u24 hu
      exact rf [1,2,5,60] [1,2] (j22 _ (ap h) :)
     have r24:∀r',y24=.inl r'→∀st,d4 (c_1,i_2) r' st→(d4 (c_1,i_2) r) st:=fun r' e st hq=>r22 r' (hy241 r' e) st hq
     replace h:=hy24
     refine sp 48 h rfl ?_ ?_<;>intro h
     ·refine cq 13 [60] [B true] 929 ?_
      exact rf [1,2,5,60] [1,113] (j24 _ (ap h) :)
     ·refine cq 7 [55] [B (e3.Party==e3.Other)] 849 ?_
      obtain⟨y25,hy25,hy251,hy252⟩:=bL h
      have j25:∀u25,y25=.inr u25→Run iu 0 (d4 (c_1,i_2) r) (.code qg::.code mM::[]) (sT 114 [(1,I i_2),(2,.hp 1 0 [] 2 0 0),(5,.hp 2 0 [] 12 0 0),(60,B u25)] [⟨0,2,[ak c_1]⟩,⟨0,12,[al e3]⟩] 3):=by
       intro u25 hu
       replace h:=hy252 u25 hu
       exact rf [1,2,5,60] [1,2] (j24 _ (ap h) :)
      have r25:∀r',y25=.inl r'→∀st,d4 (c_1,i_2) r' st→(d4 (c_1,i_2) r) st:=fun r' e st hq=>r24 r' (hy251 r' e) st hq
      replace h:=hy25
      refine sp 55 h rfl ?_ ?_<;>intro h
      ·refine cq 6 [60] [B true] 929 ?_
       exact rf [1,2,5,60] [1,113] (j25 _ (ap h) :)
      ·refine cq 2 [57] [aa e3.When] 881 ?_
       obtain⟨r26,hr26,h⟩:=bS h
       refine oy 897 (B r26) rfl (cP (Wz hr26)) ?_
       refine cq 3 [60] [B (!r26)] 929 ?_
       exact rf [1,2,5,60] [1,113] (j25 _ (ap h) :)
theorem PB {G:cO}:cM G 57 An:=gT 2 0 (aU vE (aU jA (aU FR (aU Pn bX)))) cY Tryz.func57 (fun a r h=>Se a.1 a.2 r h)
def CO:((List ac)×ac)→List V:=cA (pG 1 str) (oA str)
def CP (r:(List ac)):V×List V:=(.usl 1 (r.map str),[.dead])
noncomputable def tP :=bC [true,false] CO CP fun x=>vJ x.1 x.2
theorem IB {l_8:List ac}{s_9:ac}{r}(h:vJ l_8 s_9=some r):tP.F (CO (l_8,s_9))=some (CP r):=aQ (bB (fZ bI) (aR bI)) h
noncomputable def qu :=aK Tryz.f86
noncomputable def vK :=cX []
def sR (x:(List ac)×ac)(r:(List ac)):St→Prop:=QF vK Tryz.f86 [true,false] (CO x) (CP r)
theorem KS (l_8:List ac)(s_9:ac):cD vK 1 (sR (l_8,s_9)) (cL (cL (cL (cR (cR qu))))) 0 (sS l_8 s_9) (fun u=>(sO 45 [(0,.hs 2 0 [] 1 0 (u.2.2.map str).length),(1,str u.1),(5,I u.2.1)] [none,some ⟨0,1,u.2.2.map str⟩] 3)) fun x3=>(sO 45 [(0,.hs 2 0 [] 1 0 (l_8.map str).length),(1,str s_9),(5,I x3)] [none,some ⟨0,1,l_8.map str⟩] 3):=ey (yt l_8 s_9) fun {Q K} hK self ih x3 y h hr hn=>by
 unfold kO at h
 refine cq 5 [6,7] [I x3,.hs 2 0 [] 1 0 (l_8.map str).length] 35 ?_
 refine oq 51 (I (len l_8)) rfl (bG rfl rfl rfl (gS (f:=str) (xs:=l_8) rfl rfl)) ?_
 refine cq 2 [10] [B (decide (x3<(len l_8)))] 83 ?_
 obtain⟨y4,hy4,hy41,hy42⟩:=bL h
 have j4:∀u4,y4=.inr u4→Run vK 1 Q (.code (cR (cL (cL (cL (cL (cR (cR qu)))))))::.code (cR (cL (cL (cL (cR (cR qu))))))::.lp (cL (cL (cL (cR (cR qu)))))::.blk 0::K) (sO 45 [(0,.hs 2 0 [] 1 0 (l_8.map str).length),(1,str s_9),(5,I x3),(17,B u4)] [none,some ⟨0,1,l_8.map str⟩] 3):=by
  intro u4 hu
  replace h:=hy42 u4 hu
  refine sq h ?_ ?_<;>intro h
  ·refine aq 1 ?_
   refine cq 7 [5] [I (aj (x3+1))] 51 ?_
   refine cZ ?_
   exact rg [0,1,5] [52,2] (ih _ _ h hr hn :)
  ·refine aq 1 ?_
   exact rg [0,1,5] [4,2] (hn _ (ap h) :) (hk:=hK)
 have r4:∀r',y4=.inl r'→∀st,sR (l_8,s_9) r' st→Q st:=fun r' e st hq=>hr r' (hy41 r' e) st hq
 replace h:=hy4
 refine sp 10 h rfl ?_ ?_<;>intro h
 ·refine cq 2 [11,12] [.hs 2 0 [] 1 0 (l_8.map str).length,I x3] 115 ?_
  obtain⟨e5,he5,h⟩:=bS h
  refine oy 131 (.hp 2 0 [] 1 (0+Int.toNat x3) 0) rfl (ao rfl rfl rfl (dJ (f:=str) (xs:=l_8) rfl rfl rfl he5)) ?_
  refine oy 147 (str e5) rfl (cF rfl (iR (path:=[]) rfl rfl rfl aG (cT (f:=str) (xs:=l_8) he5) rfl rfl rfl)) ?_
  refine cq 4 [17] [B (Op.bytesLess e5 s_9)] 195 ?_
  exact rg [0,1,5,17] [196,2] (j4 _ (ap h) :)
 ·refine cq 8 [17] [B false] 195 ?_
  exact rg [0,1,5,17] [196,2] (j4 _ (ap h) :)
theorem R9 (l_8:List ac)(s_9:ac)(r:(List ac))(h:vJ l_8 s_9=some r):bT vK Tryz.f86 [true,false] 1 (CO (l_8,s_9)) (CP r):=by
 show Run _ _ (sR (l_8,s_9) r) [.code qu] _
 refine rI 45 [(0,.hs 1 0 [] 1 0 (l_8.map str).length),(1,str s_9)] [(1,some ⟨0,1,l_8.map str⟩)] 2 ?_
 unfold vJ at h
 refine cq 10 [5] [I (0)] 34 ?_
 obtain⟨y6,hy6,hy61,hy62⟩:=bJ h
 refine bZ rfl ?_
 refine rg [0,1,5] [35,1] (KS l_8 s_9 rfl 0 _ hy6 (fun r' e st hq=>by rw[hy61 r' e] at hq;exact hq) fun u6 hu=>?_)
 replace h:=hy62 u6 hu
 refine cq 5 [20,21] [I u6.2.1,.hs 2 0 [] 1 0 (u6.2.2.map str).length] 35 ?_
 refine oq 51 (I (len u6.2.2)) rfl (bG rfl rfl rfl (gS (f:=str) (xs:=u6.2.2) rfl rfl)) ?_
 refine cq 2 [24] [B (decide (u6.2.1<(len u6.2.2)))] 83 ?_
 obtain⟨y7,hy7,hy71,hy72⟩:=bJ h
 have j7:∀u7,y7=.inr u7→Run vK 1 (sR (l_8,s_9) r) (.code (cR (cL (cR (cR (cR qu)))))::.code (cR (cR (cR (cR qu))))::[]) (sO 45 [(0,.hs 2 0 [] 1 0 (u6.2.2.map str).length),(1,str u6.1),(5,I u6.2.1),(31,B u7)] [none,some ⟨0,1,u6.2.2.map str⟩] 3):=by
  intro u7 hu
  replace h:=hy72 u7 hu
  refine sq h ?_ ?_<;>intro h
  ·refine cq 5 [4] [.hs 2 0 [] 1 0 (u6.2.2.map str).length] 35 ?_
   obtain rfl:=sI h
   exact bR rfl ⟨_,fin (vs:=[.hs 2 0 [] 1 0 (u6.2.2.map str).length]) rfl (ec (fe rfl (dt rfl rfl)) dZ) rfl (kr rfl (jb rfl) (ed eH)),mq eE⟩
  ·refine aq 1 ?_
   refine aq 1 ?_
   refine fa [0,0,0,6,15,0,32,127,0,0,768,2047,4095] rfl (by decide +kernel) ?_
   refine dq [] [] (.hs 3 0 [] 1 0 0) rfl (bW rfl (fh (f:=I) (xs:=[]) (z:=str ([])) (es:=[]) (ws:=[]) rfl rfl rfl (by decide) rfl (bz rfl) rfl)) ?_
   refine dk 2 [35,34] [I u6.2.1,.hs 2 0 [] 1 0 (u6.2.2.map str).length] ?_
   obtain⟨s8,hs8,h⟩:=bS h
   refine dq [2] [] (.hs 2 0 [] 1 (0+Int.toNat (0)) (Int.toNat u6.2.1 - Int.toNat (0))) rfl (io rfl rfl rfl rfl (pn (f:=str) (xs:=u6.2.2) rfl rfl rfl rfl rfl hs8)) ?_
   obtain⟨p9,hp9,h⟩:=bS h
   obtain⟨a10,ha10,h⟩:=bS h
   refine dq [3,2] [3] (.hs 67 0 [] 1 0 (a10.map str).length) rfl (fW rfl rfl rfl rfl rfl (iL (path:=[]) (es0:=[]) (f:=str) (xs:=([]:List ac)) (ys:=p9) rfl rfl (xD (path:=[]) (f:=str) (xs:=u6.2.2) rfl rfl aG hp9 mu) rfl rfl rfl rfl rfl (by decide) iX ha10 rfl lO)) ?_ (uK rfl (tZ (path:=[]) (f:=str) (xs:=u6.2.2) rfl rfl aG mu rfl))
   refine dk 1 [38] [str u6.1] ?_
   refine dq [] [] (.hs 99 0 [] 1 0 1) rfl (bW rfl (fh (f:=I) (xs:=[]) (z:=str ([])) (es:=[str u6.1]) (ws:=[str u6.1]) rfl rfl rfl (by decide) rfl (bz rfl) rfl)) ?_
   obtain⟨a11,ha11,h⟩:=bS h
   refine dq [67,99] [67] (.hs 115 0 [] 1 0 (a11.map str).length) rfl (fW rfl rfl rfl rfl rfl (iL (path:=[]) (f:=str) (xs:=a10) (ys:=[u6.1]) rfl rfl (kq rfl rfl rfl) rfl rfl rfl aG rfl (by decide) iX ha11 rfl lO)) ?_ (uK rfl (tZ (path:=[]) (f:=str) (xs:=[u6.1]) rfl rfl aG mu rfl))
   refine dk 2 [42,41] [I u6.2.1,.hs 2 0 [] 1 0 (u6.2.2.map str).length] ?_
   obtain⟨s12,hs12,h⟩:=bS h
   refine dq [2] [] (.hs 2 0 [] 1 (0+Int.toNat u6.2.1) (Int.toNat (len u6.2.2) - Int.toNat u6.2.1)) rfl (io rfl rfl rfl rfl (pn (f:=str) (xs:=u6.2.2) rfl rfl rfl rfl (M4 rfl) hs12)) ?_
   obtain⟨p13,hp13,h⟩:=bS h
   obtain⟨a14,ha14,h⟩:=bS h
   refine dq [115,2] [115] (.hs 179 0 [] 1 0 (a14.map str).length) rfl (fW rfl rfl rfl rfl rfl (iL (path:=[]) (f:=str) (xs:=a11) (ys:=p13) rfl rfl (xD (path:=[]) (f:=str) (xs:=u6.2.2) rfl rfl aG hp13 mu) rfl rfl rfl aG rfl (by decide) iX ha14 rfl lO)) ?_ (uK rfl (tZ (path:=[]) (f:=str) (xs:=u6.2.2) rfl rfl aG mu rfl))
   refine dk 1 [4] [.hs 179 0 [] 1 0 (a14.map str).length] ?_
   refine de 211 rfl rfl ?_
   obtain rfl:=sI h
   exact bR rfl ⟨_,fin (vs:=[.hs 179 0 [] 1 0 (a14.map str).length]) rfl (ec (fe rfl (dt rfl rfl)) dZ) rfl (kr rfl (jb rfl) (ed eH)),mq eE⟩
 have r7:∀r',y7=.inl r'→∀st,sR (l_8,s_9) r' st→(sR (l_8,s_9) r) st:=fun r' e st hq=>by rw[hy71 r' e] at hq;exact hq
 replace h:=hy7
 refine sp 24 h rfl ?_ ?_<;>intro h
 ·refine cq 2 [25,26] [.hs 2 0 [] 1 0 (u6.2.2.map str).length,I u6.2.1] 115 ?_
  obtain⟨e15,he15,h⟩:=bS h
  refine oy 131 (.hp 2 0 [] 1 (0+Int.toNat u6.2.1) 0) rfl (ao rfl rfl rfl (dJ (f:=str) (xs:=u6.2.2) rfl rfl rfl he15)) ?_
  refine oy 147 (str e15) rfl (cF rfl (iR (path:=[]) rfl rfl rfl aG (cT (f:=str) (xs:=u6.2.2) he15) rfl rfl rfl)) ?_
  refine cq 4 [31] [B (e15==u6.1)] 195 ?_
  exact rg [0,1,5,31] [196,2] (j7 _ (ap h) :)
 ·refine cq 8 [31] [B false] 195 ?_
  exact rg [0,1,5,31] [196,2] (j7 _ (ap h) :)
theorem FQ {G:cO}:cM G 86 tP:=gT 2 1 bX cY Tryz.func86 (fun a r h=>R9 a.1 a.2 r h)
def vF:((List ac)×Condition)→List V:=cA (pG 1 str) (oA aE)
def vG (r:(List ac)):V×List V:=(.usl 1 (r.map str),[.dead])
noncomputable def vH (cf:((List ac)×Condition)→Option (List ac)):Ent:=bC [true,false] vF vG cf
theorem LE (cf:((List ac)×Condition)→Option (List ac)){x}{r}(h:cf x=some r):(vH cf).F (vF x)=some (vG r):=aQ (bB (fZ bI) (aR bf)) h
noncomputable def qt :=vH (aA ir)
theorem lQ {l_4:List ac}{c_5:Condition}{r}(h:qs l_4 c_5=some r):qt.F (vF (l_4,c_5))=some (vG r):=LE (aA ir) h
noncomputable def Pt :=aK Tryz.f59
noncomputable def IA (cf:((List ac)×Condition)→Option (List ac)):Env:=cX [(86,tP),(59,(vH cf))]
def Ps (cf:((List ac)×Condition)→Option (List ac))(x:(List ac)×Condition)(r:(List ac)):St→Prop:=QF (IA cf) Tryz.f59 [true,false] (vF x) (vG r)
theorem KR (cf:((List ac)×Condition)→Option (List ac))(l_4:List ac)(c_5:Condition):cD (IA cf) 1 (Ps cf (l_4,c_5)) (cL (cL (cR (cL (cR (cR Pt)))))) 0 (ji cf l_4 c_5) (fun u=>(sO 28 [(0,.hs 2 0 [] 1 0 (u.map str).length)] [none,some ⟨0,1,u.map str⟩] 3)) fun x4=>(sO 28 [(0,.hs 2 0 [] 1 0 (x4.2.map str).length),(3,.hp 3 0 [] 4 0 0),(5,I x4.1)] [none,some ⟨0,1,x4.2.map str⟩,some ⟨0,4,[aa c_5]⟩] 4):=ey (yq cf l_4 c_5) fun {Q K} hK self ih x4 y h hr hn=>by
 unfold iK at h
 refine cq 6 [13,15] [I x4.1,.isl false (c_5.Parts.map au)] 52 ?_
 refine oq 68 (I (len c_5.Parts)) rfl (bG rfl rfl rfl (cH rfl)) ?_
 refine cq 2 [17] [B (decide (x4.1<(len c_5.Parts)))] 84 ?_
 refine sq h ?_ ?_<;>intro h
 ·refine aq 1 ?_
  refine cq 7 [20,22,23] [.hs 2 0 [] 1 0 (x4.2.map str).length,.isl false (c_5.Parts.map au),I x4.1] 148 ?_
  obtain⟨e5,he5,h⟩:=bS h
  refine oq 164 (.iptr (aa e5) 0) rfl (ao rfl rfl rfl (bH rfl rfl (bd e5) rfl he5)) ?_
  refine cq 1 [25] [aa e5] 180 ?_
  obtain⟨r6,hr6,h⟩:=bS h
  refine oq 196 (.hs 180 0 [] 1 0 (r6.map str).length) rfl (aW rfl rfl (bv rfl rfl rfl (fq (fb rfl (dH (path:=[]) rfl rfl aG rfl)) (bm (bK rfl) cy)) (LE cf hr6) (.inr rfl) (fU rfl rfl rfl eu cI) rfl rfl rfl)) ?_
  refine cq 8 [0,5] [.hs 180 0 [] 1 0 (r6.map str).length,I (aj (x4.1+1))] 260 ?_
  refine cZ ?_
  exact rg [0,3,5] [261,180,3] (ih _ _ h hr hn :)
 ·refine aq 1 ?_
  exact rg [0] [85,2] (hn _ (ap h) :) (hk:=hK)
theorem R8 (cf:((List ac)×Condition)→Option (List ac))(l_4:List ac)(c_5:Condition)(r:(List ac))(h:sQ cf l_4 c_5=some r):bT (IA cf) Tryz.f59 [true,false] 1 (vF (l_4,c_5)) (vG r):=by
 show Run _ _ (Ps cf (l_4,c_5) r) [.code Pt] _
 refine rI 28 [(0,.hs 1 0 [] 1 0 (l_4.map str).length),(1,aa c_5)] [(1,some ⟨0,1,l_4.map str⟩)] 2 ?_
 unfold sQ at h
 refine ck 12 [3,8] [] [2] [] [.hp 2 0 [] 4 0 0,B (c_5.Op==2)] [some ⟨0,4,[aa c_5]⟩] 82 (by kernel_rfl) ?_
 refine sq h ?_ ?_<;>intro h
 ·refine cq 5 [9,11] [.hs 1 0 [] 1 0 (l_4.map str).length,str c_5.Name] 130 ?_
  obtain⟨r3,hr3,h⟩:=bS h
  refine oq 146 (.hs 130 0 [] 1 0 (r3.map str).length) rfl (aW rfl rfl (bv rfl rfl rfl (fq (fb rfl (dH (path:=[]) rfl rfl aG rfl)) (bm (bK rfl) cy)) (IB hr3) (.inr rfl) (fU rfl rfl rfl eu cI) rfl rfl rfl)) ?_
  refine cq 2 [4] [.hs 130 0 [] 1 0 (r3.map str).length] 162 ?_
  obtain rfl:=sI h
  exact bR rfl ⟨_,fin (vs:=[.hs 130 0 [] 1 0 (r3.map str).length]) rfl (ec (fe rfl (dt rfl rfl)) dZ) rfl (kr rfl (jb rfl) (ed eH)),mq eE⟩
 ·refine aq 1 ?_
  refine cq 6 [5] [I (0)] 98 ?_
  obtain⟨y7,hy7,hy71,hy72⟩:=bJ h
  refine bZ rfl ?_
  refine rg [0,3,5] [99,1,2] (KR cf l_4 c_5 rfl (0,l_4) _ hy7 (fun r' e st hq=>by rw[hy71 r' e] at hq;exact hq) fun u7 hu=>?_)
  replace h:=hy72 u7 hu
  refine cq 5 [4] [.hs 2 0 [] 1 0 (u7.map str).length] 35 ?_
  obtain rfl:=sI h
  exact bR rfl ⟨_,fin (vs:=[.hs 2 0 [] 1 0 (u7.map str).length]) rfl (ec (fe rfl (dt rfl rfl)) dZ) rfl (kr rfl (jb rfl) (ed eH)),mq eE⟩
theorem vI {G:cO}:cM G 59 qt:=gx fun cf g_Ffcs=>gT 2 1 (aU FQ (aU g_Ffcs bX)) cY Tryz.func59 (fun a r h=>R8 cf a.1 a.2 r h)
def C9:Contract→List V:=oA aO
def Da (r:(List ac)):V×List V:=(.usl 1 (r.map str),[])
noncomputable def Ar :=bC [false] C9 Da fun x=>tS x
theorem WF {c_1:Contract}{r}(h:tS c_1=some r):Ar.F (C9 c_1)=some (Da r):=aQ (aR bN) h
noncomputable def PH :=aK Tryz.f58
noncomputable def IJ :=cX [(86,tP),(59,qt)]
def PG (x:Contract)(r:(List ac)):St→Prop:=QF IJ Tryz.f58 [false] (C9 x) (Da r)
theorem KX (c_1:Contract):cD IJ 0 (PG c_1) (cL (cL (cR (cL (cR (cR PH)))))) 0 (mO c_1) (fun u=>(sT 29 [(3,.hs 1 0 [] 1 0 (u.map str).length)] [⟨0,1,u.map str⟩] 2)) fun x2=>(sT 29 [(1,.hp 1 0 [] 2 0 0),(3,.hs 2 0 [] 1 0 (x2.2.map str).length),(4,I x2.1)] [⟨0,2,[ak c_1]⟩,⟨0,1,x2.2.map str⟩] 3):=ey (yz c_1) fun {Q K} hK self ih x2 y h hr hn=>by
 unfold kS at h
 refine cq 6 [6,8] [I x2.1,.isl false (c_1.Clauses.map ar)] 51 ?_
 refine oq 67 (I (len c_1.Clauses)) rfl (bG rfl rfl rfl (cH rfl)) ?_
 refine cq 2 [10] [B (decide (x2.1<(len c_1.Clauses)))] 83 ?_
 refine sq h ?_ ?_<;>intro h
 ·refine aq 1 ?_
  refine aq 2 ?_
  refine fa [0,0,2,0,14,30,62,127,0,256,0,1792,3840,7936,16383,32767] rfl (by decide +kernel) ?_
  refine dk 1 [13] [.hs 2 0 [] 1 0 (x2.2.map str).length] ?_
  refine dq [1] [] (.hp 1 0 [] 2 0 1) rfl (dM rfl rfl rfl) ?_
  refine dq [1] [] (.isl false (c_1.Clauses.map ar)) rfl (cF rfl rfl) ?_
  refine dk 1 [16] [I x2.1] ?_
  obtain⟨e3,he3,h⟩:=bS h
  refine dq [] [] (.iptr (al e3) 0) rfl (ao rfl rfl rfl (bH rfl rfl rfl rfl he3)) ?_
  refine dq [] [] (.iptr (al e3) 3) rfl (dM rfl rfl rfl) ?_
  refine dq [] [] (str e3.Action) rfl (cF rfl rfl) ?_
  obtain⟨r4,hr4,h⟩:=bS h
  refine dq [2] [2] (.hs 195 0 [] 1 0 (r4.map str).length) rfl (aW rfl rfl (bv rfl rfl rfl (fq (fb rfl (dH (path:=[]) rfl rfl aG rfl)) (bm (bK rfl) cy)) (IB hr4) (.inr rfl) (fU rfl rfl rfl eu cI) rfl rfl rfl)) ?_ (dY rfl rfl rfl rfl (fq (fb rfl (dH (path:=[]) rfl rfl aG rfl)) (bm (bK rfl) cy)) (IB hr4) (.inr rfl) rfl)
  refine dq [1] [] (.hp 1 0 [] 2 0 1) rfl (dM rfl rfl rfl) ?_
  refine dq [1] [] (.isl false (c_1.Clauses.map ar)) rfl (cF rfl rfl) ?_
  refine dk 1 [23] [I x2.1] ?_
  obtain⟨e5,he5,h⟩:=bS h
  refine dq [] [] (.iptr (al e5) 0) rfl (ao rfl rfl rfl (bH rfl rfl rfl rfl he5)) ?_
  refine dq [] [] (.iptr (al e5) 6) rfl (dM rfl rfl rfl) ?_
  refine dq [] [] (aa e5.When) rfl (cF rfl rfl) ?_
  obtain⟨r6,hr6,h⟩:=bS h
  refine dq [195] [195] (.hs 307 0 [] 1 0 (r6.map str).length) rfl (aW rfl rfl (bv rfl rfl rfl (fq (fb rfl (dH (path:=[]) rfl rfl aG rfl)) (bm (bK rfl) cy)) (lQ hr6) (.inr rfl) (fU rfl rfl rfl eu cI) rfl rfl rfl)) ?_ (dY rfl rfl rfl rfl (fq (fb rfl (dH (path:=[]) rfl rfl aG rfl)) (bm (bK rfl) cy)) (lQ hr6) (.inr rfl) rfl)
  refine dk 1 [3] [.hs 307 0 [] 1 0 (r6.map str).length] ?_
  refine de 339 rfl rfl ?_
  refine cq 6 [4] [I (aj (x2.1+1))] 387 ?_
  refine cZ ?_
  exact rf [1,3,4] [1,307] (ih _ _ h hr hn :)
 ·refine aq 1 ?_
  exact rf [3] [2] (hn _ (ap h) :) (hk:=hK)
theorem Sh (c_1:Contract)(r:(List ac))(h:tS c_1=some r):bT IJ Tryz.f58 [false] 0 (C9 c_1) (Da r):=by
 show Run _ _ (PG c_1 r) [.code PH] _
 refine rI 29 [(0,ak c_1)] [] 1 ?_
 unfold tS at h
 refine ck 7 [1] [] [1] [] [.hp 1 0 [] 2 0 0] [some ⟨0,2,[ak c_1]⟩] 33 (by kernel_rfl) ?_
 refine oq 49 (.hs 33 0 [] 1 0 0) rfl (bW rfl (fh (f:=I) (xs:=[]) (z:=str ([])) (es:=[]) (ws:=[]) rfl rfl rfl (by decide) rfl (bz rfl) rfl)) ?_
 refine cq 8 [3,4] [.hs 33 0 [] 1 0 0,I (0)] 81 ?_
 obtain⟨y7,hy7,hy71,hy72⟩:=bJ h
 refine bZ rfl ?_
 refine rf [1,3,4] [1,33] (KX c_1 rfl (0,[]) _ hy7 (fun r' e st hq=>by rw[hy71 r' e] at hq;exact hq) fun u7 hu=>?_)
 replace h:=hy72 u7 hu
 refine cq 5 [2] [.hs 1 0 [] 1 0 (u7.map str).length] 34 ?_
 obtain rfl:=sI h
 exact bR rfl ⟨_,fin (vs:=[.hs 1 0 [] 1 0 (u7.map str).length]) rfl (ec (fe rfl (dt rfl rfl)) dZ) rfl (ed eH),eE⟩
theorem PI {G:cO}:cM G 58 Ar:=gT 1 0 (aU FQ (aU vI bX)) cY Tryz.func58 (fun a r h=>Sh a r h)
def C2:Contract→List V:=oA aO
def C3 (r:Bool):V×List V:=(B r,[])
noncomputable def Ap :=bC [false] C2 C3 fun x=>Ao x
theorem WE {c_1:Contract}{r}(h:Ao c_1=some r):Ap.F (C2 c_1)=some (C3 r):=aQ (aR bN) h
noncomputable def C4 :=aK Tryz.f28
noncomputable abbrev wV :=cL (cL (cR (cL (cR (cR C4)))))
noncomputable def vR :=cX [(42,hJ),(56,tR),(57,An),(58,Ar),(55,Au)]
def sY (x:Contract)(r:Bool):St→Prop:=QF vR Tryz.f28 [false] (C2 x) (C3 r)
theorem KW (c_1:Contract):cD vR 0 (sY c_1) wV 0 (lx c_1) (fun u=>(sT 41 [(1,.hp 1 0 [] 2 0 0)] [⟨0,2,[ak c_1]⟩] 2)) fun x4=>(sT 41 [(1,.hp 1 0 [] 2 0 0),(3,I x4)] [⟨0,2,[ak c_1]⟩] 2):=ey (yy c_1) fun {Q K} hK self ih x4 y h hr hn=>by
 unfold kR at h
 refine cq 6 [14,16] [I x4,.isl false (c_1.Clauses.map ar)] 50 ?_
 refine oq 66 (I (len c_1.Clauses)) rfl (bG rfl rfl rfl (cH rfl)) ?_
 refine cq 2 [18] [B (decide (x4<(len c_1.Clauses)))] 82 ?_
 refine sq h ?_ ?_<;>intro h
 ·refine aq 1 ?_
  refine aq 3 ?_
  refine fa [0,0,2,0,14,30,62,127,0,511,1023,2047,2047,8191,16383,32767] rfl (by decide +kernel) ?_
  refine dq [1] [] (ak c_1) rfl (cF rfl rfl) ?_
  refine dq [1] [] (.hp 1 0 [] 2 0 1) rfl (dM rfl rfl rfl) ?_
  refine dq [1] [] (.isl false (c_1.Clauses.map ar)) rfl (cF rfl rfl) ?_
  refine dk 1 [24] [I x4] ?_
  obtain⟨e5,he5,h⟩:=bS h
  refine dq [] [] (.iptr (al e5) 0) rfl (ao rfl rfl rfl (bH rfl rfl rfl rfl he5)) ?_
  refine dq [] [] (.iptr (al e5) 0) rfl (dM rfl rfl rfl) ?_
  refine dq [] [] (str e5.Id) rfl (cF rfl rfl) ?_
  obtain⟨r6,hr6,h⟩:=bS h
  refine dq [] [] (I r6) rfl (cP (II hr6)) ?_ (dY rfl rfl rfl rfl (bm (bK rfl) (bm (bK rfl) cy)) (II hr6) (.inr rfl) rfl)
  refine dk 3 [31,30,29] [B (r6 != x4),B (r6 != x4),I x4] ?_
  obtain⟨y7,hy7,hy71,hy72⟩:=bL h
  have j7:∀u7,y7=.inr u7→Run vR 0 Q (.code (cR (cL (cL (cR wV))))::.blk 1::.code (cR (cR wV))::.lp wV::.blk 0::K) (sT 41 [(1,.hp 1 0 [] 2 0 0),(3,I x4),(36,B u7)] [⟨0,2,[ak c_1]⟩] 2):=by
   intro u7 hu
   replace h:=hy72 u7 hu
   refine sq h ?_ ?_<;>intro h
   ·refine cq 4 [2] [B false] 18 ?_
    exact bR rfl (hr _ (ap h) _ (qp [B false]))
   ·refine aq 1 ?_
    refine cq 6 [3] [I (aj (x4+1))] 50 ?_
    refine cZ ?_
    exact rf [1,3] [1] (ih _ _ h hr hn :)
  have r7:∀r',y7=.inl r'→∀st,sY c_1 r' st→Q st:=fun r' e st hq=>hr r' (hy71 r' e) st hq
  replace h:=hy7
  refine sp 31 h rfl ?_ ?_<;>intro h
  ·refine dk 5 [36,35,34,33,32] [B true,.und,.und,.und,.und] ?_
   refine de 338 rfl rfl ?_
   exact rf [1,3,36] [1] (j7 _ (ap h) :)
  ·refine dy [1] [] (ak c_1) rfl (cF rfl rfl) ?_
   refine dk 1 [33] [I x4] ?_
   obtain⟨r8,hr8,h⟩:=bS h
   refine dy [] [] (B r8) rfl (cP (PA hr8)) ?_ (dY rfl rfl rfl rfl (bm (bK rfl) (bm (bK rfl) cy)) (PA hr8) (.inr rfl) rfl)
   refine dk 2 [36,35] [B (!r8),B (!r8)] ?_
   refine de 338 rfl rfl ?_
   exact rf [1,3,36] [1] (j7 _ (ap h) :)
 ·refine aq 1 ?_
  exact rf [1] [1] (hn _ (ap h) :) (hk:=hK)
theorem Sg (c_1:Contract)(r:Bool)(h:Ao c_1=some r):bT vR Tryz.f28 [false] 0 (C2 c_1) (C3 r):=by
 show Run _ _ (sY c_1 r) [.code C4] _
 refine rI 41 [(0,ak c_1)] [] 1 ?_
 unfold Ao at h
 refine ck 10 [1,5] [] [1] [] [.hp 1 0 [] 2 0 0,.isl false (c_1.Clauses.map ar)] [some ⟨0,2,[ak c_1]⟩] 65 (by kernel_rfl) ?_
 refine oq 81 (I (len c_1.Clauses)) rfl (bG rfl rfl rfl (cH rfl)) ?_
 obtain⟨r2,hr2,h⟩:=bS h
 refine oq 97 (B r2) rfl (cP (gF hr2)) ?_
 refine cq 2 [9] [B (!r2)] 129 ?_
 obtain⟨y3,hy3,hy31,hy32⟩:=bJ h
 have j3:∀u3,y3=.inr u3→Run vR 0 (sY c_1 r) (.code (cR (cL (cR C4)))::.code (cR (cR C4))::[]) (sT 41 [(1,.hp 1 0 [] 2 0 0),(13,B u3)] [⟨0,2,[ak c_1]⟩] 2):=by
  intro u3 hu
  replace h:=hy32 u3 hu
  refine sq h ?_ ?_<;>intro h
  ·refine cq 4 [2] [B false] 18 ?_
   obtain rfl:=sI h
   exact rP [B false]
  ·refine aq 1 ?_
   refine cq 6 [3] [I (0)] 18 ?_
   obtain⟨y9,hy9,hy91,hy92⟩:=bJ h
   refine bZ rfl ?_
   refine rf [1,3] [1] (KW c_1 rfl 0 _ hy9 (fun r' e st hq=>by rw[hy91 r' e] at hq;exact hq) fun u9 hu=>?_)
   replace h:=hy92 u9 hu
   refine cq 3 [37] [ak c_1] 18 ?_
   obtain⟨r10,hr10,h⟩:=bS h
   refine oq 34 (.hs 18 0 [] 1 0 (r10.map str).length) rfl (cP (WF hr10)) ?_
   refine oq 50 (I (len r10)) rfl (bG rfl rfl rfl (gS (f:=str) (xs:=r10) rfl rfl)) ?_
   refine cq 3 [2] [B (decide ((len r10)≤16))] 82 ?_
   obtain rfl:=sI h
   exact rP [B (decide ((len r10)≤16))]
 have r3:∀r',y3=.inl r'→∀st,sY c_1 r' st→(sY c_1 r) st:=fun r' e st hq=>by rw[hy31 r' e] at hq;exact hq
 replace h:=hy3
 refine sp 9 h rfl ?_ ?_<;>intro h
 ·refine cq 5 [13] [B true] 193 ?_
  exact rf [1,13] [1] (j3 _ (ap h) :)
 ·refine cq 1 [10] [ak c_1] 145 ?_
  obtain⟨r11,hr11,h⟩:=bS h
  refine oy 161 (B r11) rfl (cP (WG hr11)) ?_
  refine cq 3 [13] [B (!r11)] 193 ?_
  exact rf [1,13] [1] (j3 _ (ap h) :)
theorem PE {G:cO}:cM G 28 Ap:=gT 1 0 (aU jA (aU FR (aU PB (aU PI (aU PJ bX))))) cY Tryz.func28 (fun a r h=>Sg a r h)
def Ci:(Clause×Clause)→List V:=cA ar (oA ar)
def Cj (r:Bool):V×List V:=(B r,[])
noncomputable def zV :=bC [false,false] Ci Cj fun x=>ER x.1 x.2
theorem Wn {a_1:Clause}{b_2:Clause}{r}(h:ER a_1 b_2=some r):zV.F (Ci (a_1,b_2))=some (Cj r):=aQ (bB cV (aR cV)) h
noncomputable def O6 :=aK Tryz.f29
noncomputable def Iq :=cX []
def O5 (x:Clause×Clause)(r:Bool):St→Prop:=QF Iq Tryz.f29 [false,false] (Ci x) (Cj r)
theorem RO (a_1:Clause)(b_2:Clause)(r:Bool)(h:ER a_1 b_2=some r):bT Iq Tryz.f29 [false,false] 0 (Ci (a_1,b_2)) (Cj r):=by
 show Run _ _ (O5 (a_1,b_2) r) [.code O6] _
 refine rI 17 [(0,al a_1),(1,al b_2)] [] 1 ?_
 unfold ER at h
 refine ck 14 [2,3,10] [] [1,17] [] [.hp 1 0 [] 12 0 0,.hp 17 0 [] 12 0 0,B (a_1.Party==b_2.Party)] [some ⟨0,12,[al a_1]⟩,some ⟨0,12,[al b_2]⟩] 145 (by kernel_rfl) ?_
 obtain⟨u3,hu3,h⟩:=lJ h
 have j3:Run Iq 0 (O5 (a_1,b_2) r) (.code (cR (cR O6))::[]) (sT 17 [(4,B u3)] [] 1):=by
  obtain rfl:=sI h
  exact rP [B u3]
 replace h:=hu3
 clear hu3
 refine sp 10 h rfl ?_ ?_<;>intro h
 ·refine cq 8 [4] [B (a_1.Action==b_2.Action)] 257 ?_
  subst h
  exact rf [4] [] (j3 :)
 ·refine cq 8 [4] [B false] 257 ?_
  subst h
  exact rf [4] [] (j3 :)
theorem O7 {G:cO}:cM G 29 zV:=gT 2 0 bX cY Tryz.func29 (fun a r h=>RO a.1 a.2 r h)
def Ck:(Condition×Condition)→List V:=cA aE (oA aE)
def Cl (r:Bool):V×List V:=(B r,[])
noncomputable def zW :=bC [false,false] Ck Cl fun x=>rC x.1 x.2
theorem Wo {a_1:Condition}{b_2:Condition}{r}(h:rC a_1 b_2=some r):zW.F (Ck (a_1,b_2))=some (Cl r):=aQ (bB bf (aR bf)) h
noncomputable def Wq :=aK Tryz.f30
noncomputable def O8 :=cX [(59,qt)]
def Wp (x:Condition×Condition)(r:Bool):St→Prop:=QF O8 Tryz.f30 [false,false] (Ck x) (Cl r)
theorem RP (a_1:Condition)(b_2:Condition)(r:Bool)(h:rC a_1 b_2=some r):bT O8 Tryz.f30 [false,false] 0 (Ck (a_1,b_2)) (Cl r):=by
 show Run _ _ (Wp (a_1,b_2) r) [.code Wq] _
 refine rI 12 [(0,aa a_1),(1,aa b_2)] [] 1 ?_
 unfold rC at h
 refine ck 7 [2,3] [] [1,17] [] [.hp 1 0 [] 4 0 0,.hp 17 0 [] 4 0 0] [some ⟨0,4,[aa a_1]⟩,some ⟨0,4,[aa b_2]⟩] 49 (by kernel_rfl) ?_
 refine fa [0,0,3,0,15,31,63,127] rfl (by decide +kernel) ?_
 refine dq [] [] (.hs 49 0 [] 1 0 0) rfl (bW rfl (fh (f:=I) (xs:=[]) (z:=str ([])) (es:=[]) (ws:=[]) rfl rfl rfl (by decide) rfl (bz rfl) rfl)) ?_
 refine dq [1] [] (aa a_1) rfl (cF rfl rfl) ?_
 obtain⟨r3,hr3,h⟩:=bS h
 refine dq [49] [49] (.hs 81 0 [] 1 0 (r3.map str).length) rfl (aW rfl rfl (bv rfl rfl rfl (fq (fb rfl (dH (path:=[]) (m:=0) (es2:=[]) rfl rfl aG rfl)) (bm (bK rfl) cy)) (lQ hr3) (.inr rfl) (fU rfl rfl rfl eu cI) rfl rfl rfl)) ?_ (dY rfl rfl rfl rfl (fq (fb rfl (dH (path:=[]) (m:=0) (es2:=[]) rfl rfl aG rfl)) (bm (bK rfl) cy)) (lQ hr3) (.inr rfl) rfl)
 refine dq [17] [] (aa b_2) rfl (cF rfl rfl) ?_
 obtain⟨r4,hr4,h⟩:=bS h
 refine dq [81] [81] (.hs 113 0 [] 1 0 (r4.map str).length) rfl (aW rfl rfl (bv rfl rfl rfl (fq (fb rfl (dH (path:=[]) rfl rfl aG rfl)) (bm (bK rfl) cy)) (lQ hr4) (.inr rfl) (fU rfl rfl rfl eu cI) rfl rfl rfl)) ?_ (dY rfl rfl rfl rfl (fq (fb rfl (dH (path:=[]) rfl rfl aG rfl)) (bm (bK rfl) cy)) (lQ hr4) (.inr rfl) rfl)
 refine dq [113] [] (I (len r4)) rfl (bG rfl rfl rfl (gS (f:=str) (xs:=r4) rfl rfl)) ?_
 refine dk 2 [4,11] [B (decide ((len r4)≤10)),B (decide ((len r4)≤10))] ?_
 refine de 177 rfl rfl ?_
 obtain rfl:=sI h
 exact rP [B (decide ((len r4)≤10))]
theorem O9 {G:cO}:cM G 30 zW:=gT 2 0 (aU vI bX) cY Tryz.func30 (fun a r h=>RP a.1 a.2 r h)
def Co:((List Int)×Int)→List V:=cA (pG 1 I) (oA I)
def Cp (r:(List Int)):V×List V:=(.usl 1 (r.map I),[.dead])
noncomputable def tL :=bC [true,false] Co Cp fun x=>vp x.1 x.2
theorem Ir {l_8:List Int}{n_9:Int}{r}(h:vp l_8 n_9=some r):tL.F (Co (l_8,n_9))=some (Cp r):=aQ (bB (fZ cu) (aR cu)) h
noncomputable def qn :=aK Tryz.f87
noncomputable def vq :=cX []
def sJ (x:(List Int)×Int)(r:(List Int)):St→Prop:=QF vq Tryz.f87 [true,false] (Co x) (Cp r)
theorem KK (l_8:List Int)(n_9:Int):cD vq 1 (sJ (l_8,n_9)) (cL (cL (cL (cR (cR qn))))) 0 (sK l_8 n_9) (fun u=>(sO 45 [(0,.hs 2 0 [] 1 0 (u.2.2.map I).length),(1,I u.1),(5,I u.2.1)] [none,some ⟨0,1,u.2.2.map I⟩] 3)) fun x3=>(sO 45 [(0,.hs 2 0 [] 1 0 (l_8.map I).length),(1,I n_9),(5,I x3)] [none,some ⟨0,1,l_8.map I⟩] 3):=ey (yh l_8 n_9) fun {Q K} hK self ih x3 y h hr hn=>by
 unfold kJ at h
 refine cq 5 [6,7] [I x3,.hs 2 0 [] 1 0 (l_8.map I).length] 35 ?_
 refine oq 51 (I (len l_8)) rfl (bG rfl rfl rfl (gS (f:=I) (xs:=l_8) rfl rfl)) ?_
 refine cq 2 [10] [B (decide (x3<(len l_8)))] 83 ?_
 obtain⟨y4,hy4,hy41,hy42⟩:=bL h
 have j4:∀u4,y4=.inr u4→Run vq 1 Q (.code (cR (cL (cL (cL (cL (cR (cR qn)))))))::.code (cR (cL (cL (cL (cR (cR qn))))))::.lp (cL (cL (cL (cR (cR qn)))))::.blk 0::K) (sO 45 [(0,.hs 2 0 [] 1 0 (l_8.map I).length),(1,I n_9),(5,I x3),(17,B u4)] [none,some ⟨0,1,l_8.map I⟩] 3):=by
  intro u4 hu
  replace h:=hy42 u4 hu
  refine sq h ?_ ?_<;>intro h
  ·refine aq 1 ?_
   refine cq 7 [5] [I (aj (x3+1))] 51 ?_
   refine cZ ?_
   exact rg [0,1,5] [52,2] (ih _ _ h hr hn :)
  ·refine aq 1 ?_
   exact rg [0,1,5] [4,2] (hn _ (ap h) :) (hk:=hK)
 have r4:∀r',y4=.inl r'→∀st,sJ (l_8,n_9) r' st→Q st:=fun r' e st hq=>hr r' (hy41 r' e) st hq
 replace h:=hy4
 refine sp 10 h rfl ?_ ?_<;>intro h
 ·refine cq 2 [11,12] [.hs 2 0 [] 1 0 (l_8.map I).length,I x3] 115 ?_
  obtain⟨e5,he5,h⟩:=bS h
  refine oy 131 (.hp 2 0 [] 1 (0+Int.toNat x3) 0) rfl (ao rfl rfl rfl (dJ (f:=I) (xs:=l_8) rfl rfl rfl he5)) ?_
  refine oy 147 (I e5) rfl (cF rfl (iR (path:=[]) rfl rfl rfl aG (cT (f:=I) (xs:=l_8) he5) rfl rfl rfl)) ?_
  refine cq 4 [17] [B (decide (e5<n_9))] 195 ?_
  exact rg [0,1,5,17] [196,2] (j4 _ (ap h) :)
 ·refine cq 8 [17] [B false] 195 ?_
  exact rg [0,1,5,17] [196,2] (j4 _ (ap h) :)
theorem RR (l_8:List Int)(n_9:Int)(r:(List Int))(h:vp l_8 n_9=some r):bT vq Tryz.f87 [true,false] 1 (Co (l_8,n_9)) (Cp r):=by
 show Run _ _ (sJ (l_8,n_9) r) [.code qn] _
 refine rI 45 [(0,.hs 1 0 [] 1 0 (l_8.map I).length),(1,I n_9)] [(1,some ⟨0,1,l_8.map I⟩)] 2 ?_
 unfold vp at h
 refine cq 10 [5] [I (0)] 34 ?_
 obtain⟨y6,hy6,hy61,hy62⟩:=bJ h
 refine bZ rfl ?_
 refine rg [0,1,5] [35,1] (KK l_8 n_9 rfl 0 _ hy6 (fun r' e st hq=>by rw[hy61 r' e] at hq;exact hq) fun u6 hu=>?_)
 replace h:=hy62 u6 hu
 refine cq 5 [20,21] [I u6.2.1,.hs 2 0 [] 1 0 (u6.2.2.map I).length] 35 ?_
 refine oq 51 (I (len u6.2.2)) rfl (bG rfl rfl rfl (gS (f:=I) (xs:=u6.2.2) rfl rfl)) ?_
 refine cq 2 [24] [B (decide (u6.2.1<(len u6.2.2)))] 83 ?_
 obtain⟨y7,hy7,hy71,hy72⟩:=bJ h
 have j7:∀u7,y7=.inr u7→Run vq 1 (sJ (l_8,n_9) r) (.code (cR (cL (cR (cR (cR qn)))))::.code (cR (cR (cR (cR qn))))::[]) (sO 45 [(0,.hs 2 0 [] 1 0 (u6.2.2.map I).length),(1,I u6.1),(5,I u6.2.1),(31,B u7)] [none,some ⟨0,1,u6.2.2.map I⟩] 3):=by
  intro u7 hu
  replace h:=hy72 u7 hu
  refine sq h ?_ ?_<;>intro h
  ·refine cq 5 [4] [.hs 2 0 [] 1 0 (u6.2.2.map I).length] 35 ?_
   obtain rfl:=sI h
   exact bR rfl ⟨_,fin (vs:=[.hs 2 0 [] 1 0 (u6.2.2.map I).length]) rfl (ec (fe rfl (dt rfl rfl)) dZ) rfl (kr rfl (jb rfl) (ed eH)),mq eE⟩
  ·refine aq 1 ?_
   refine aq 1 ?_
   refine fa [0,0,0,6,15,0,32,127,0,0,768,2047,4095] rfl (by decide +kernel) ?_
   refine dq [] [] (.hs 3 0 [] 1 0 0) rfl (bW rfl (fh (f:=I) (xs:=[]) (z:=I (0)) (es:=[]) (ws:=[]) rfl rfl rfl (by decide) rfl (bz rfl) rfl)) ?_
   refine dk 2 [35,34] [I u6.2.1,.hs 2 0 [] 1 0 (u6.2.2.map I).length] ?_
   obtain⟨s8,hs8,h⟩:=bS h
   refine dq [2] [] (.hs 2 0 [] 1 (0+Int.toNat (0)) (Int.toNat u6.2.1 - Int.toNat (0))) rfl (io rfl rfl rfl rfl (pn (f:=I) (xs:=u6.2.2) rfl rfl rfl rfl rfl hs8)) ?_
   obtain⟨p9,hp9,h⟩:=bS h
   obtain⟨a10,ha10,h⟩:=bS h
   refine dq [3,2] [3] (.hs 67 0 [] 1 0 (a10.map I).length) rfl (fW rfl rfl rfl rfl rfl (iL (path:=[]) (es0:=[]) (f:=I) (xs:=([]:List Int)) (ys:=p9) rfl rfl (xD (path:=[]) (f:=I) (xs:=u6.2.2) rfl rfl aG hp9 v6) rfl rfl rfl rfl rfl (by decide) tg ha10 rfl lO)) ?_ (uK rfl (tZ (path:=[]) (f:=I) (xs:=u6.2.2) rfl rfl aG v6 rfl))
   refine dk 1 [38] [I u6.1] ?_
   refine dq [] [] (.hs 99 0 [] 1 0 1) rfl (bW rfl (fh (f:=I) (xs:=[]) (z:=I (0)) (es:=[I u6.1]) (ws:=[I u6.1]) rfl rfl rfl (by decide) rfl (bz rfl) rfl)) ?_
   obtain⟨a11,ha11,h⟩:=bS h
   refine dq [67,99] [67] (.hs 115 0 [] 1 0 (a11.map I).length) rfl (fW rfl rfl rfl rfl rfl (iL (path:=[]) (f:=I) (xs:=a10) (ys:=[u6.1]) rfl rfl (kq rfl rfl rfl) rfl rfl rfl aG rfl (by decide) tg ha11 rfl lO)) ?_ (uK rfl (tZ (path:=[]) (f:=I) (xs:=[u6.1]) rfl rfl aG v6 rfl))
   refine dk 2 [42,41] [I u6.2.1,.hs 2 0 [] 1 0 (u6.2.2.map I).length] ?_
   obtain⟨s12,hs12,h⟩:=bS h
   refine dq [2] [] (.hs 2 0 [] 1 (0+Int.toNat u6.2.1) (Int.toNat (len u6.2.2) - Int.toNat u6.2.1)) rfl (io rfl rfl rfl rfl (pn (f:=I) (xs:=u6.2.2) rfl rfl rfl rfl (M4 rfl) hs12)) ?_
   obtain⟨p13,hp13,h⟩:=bS h
   obtain⟨a14,ha14,h⟩:=bS h
   refine dq [115,2] [115] (.hs 179 0 [] 1 0 (a14.map I).length) rfl (fW rfl rfl rfl rfl rfl (iL (path:=[]) (f:=I) (xs:=a11) (ys:=p13) rfl rfl (xD (path:=[]) (f:=I) (xs:=u6.2.2) rfl rfl aG hp13 v6) rfl rfl rfl aG rfl (by decide) tg ha14 rfl lO)) ?_ (uK rfl (tZ (path:=[]) (f:=I) (xs:=u6.2.2) rfl rfl aG v6 rfl))
   refine dk 1 [4] [.hs 179 0 [] 1 0 (a14.map I).length] ?_
   refine de 211 rfl rfl ?_
   obtain rfl:=sI h
   exact bR rfl ⟨_,fin (vs:=[.hs 179 0 [] 1 0 (a14.map I).length]) rfl (ec (fe rfl (dt rfl rfl)) dZ) rfl (kr rfl (jb rfl) (ed eH)),mq eE⟩
 have r7:∀r',y7=.inl r'→∀st,sJ (l_8,n_9) r' st→(sJ (l_8,n_9) r) st:=fun r' e st hq=>by rw[hy71 r' e] at hq;exact hq
 replace h:=hy7
 refine sp 24 h rfl ?_ ?_<;>intro h
 ·refine cq 2 [25,26] [.hs 2 0 [] 1 0 (u6.2.2.map I).length,I u6.2.1] 115 ?_
  obtain⟨e15,he15,h⟩:=bS h
  refine oy 131 (.hp 2 0 [] 1 (0+Int.toNat u6.2.1) 0) rfl (ao rfl rfl rfl (dJ (f:=I) (xs:=u6.2.2) rfl rfl rfl he15)) ?_
  refine oy 147 (I e15) rfl (cF rfl (iR (path:=[]) rfl rfl rfl aG (cT (f:=I) (xs:=u6.2.2) he15) rfl rfl rfl)) ?_
  refine cq 4 [31] [B (e15==u6.1)] 195 ?_
  exact rg [0,1,5,31] [196,2] (j7 _ (ap h) :)
 ·refine cq 8 [31] [B false] 195 ?_
  exact rg [0,1,5,31] [196,2] (j7 _ (ap h) :)
theorem FO {G:cO}:cM G 87 tL:=gT 2 1 bX cY Tryz.func87 (fun a r h=>RR a.1 a.2 r h)
def vt:((List Int)×Condition)→List V:=cA (pG 1 I) (oA aE)
def vu (r:(List Int)):V×List V:=(.usl 1 (r.map I),[.dead])
noncomputable def vv (cd:((List Int)×Condition)→Option (List Int)):Ent:=bC [true,false] vt vu cd
theorem Lw (cd:((List Int)×Condition)→Option (List Int)){x}{r}(h:cd x=some r):(vv cd).F (vt x)=some (vu r):=aQ (bB (fZ cu) (aR bf)) h
noncomputable def zZ :=vv (aA iq)
theorem Cu {l_4:List Int}{c_5:Condition}{r}(h:vr l_4 c_5=some r):zZ.F (vt (l_4,c_5))=some (vu r):=Lw (aA iq) h
noncomputable def Pf :=aK Tryz.f88
noncomputable def Iu (cd:((List Int)×Condition)→Option (List Int)):Env:=cX [(87,tL),(88,(vv cd))]
def Pe (cd:((List Int)×Condition)→Option (List Int))(x:(List Int)×Condition)(r:(List Int)):St→Prop:=QF (Iu cd) Tryz.f88 [true,false] (vt x) (vu r)
theorem KL (cd:((List Int)×Condition)→Option (List Int))(l_4:List Int)(c_5:Condition):cD (Iu cd) 1 (Pe cd (l_4,c_5)) (cL (cL (cR (cL (cR (cR Pf)))))) 0 (jd cd l_4 c_5) (fun u=>(sO 28 [(0,.hs 2 0 [] 1 0 (u.map I).length)] [none,some ⟨0,1,u.map I⟩] 3)) fun x4=>(sO 28 [(0,.hs 2 0 [] 1 0 (x4.2.map I).length),(3,.hp 3 0 [] 4 0 0),(5,I x4.1)] [none,some ⟨0,1,x4.2.map I⟩,some ⟨0,4,[aa c_5]⟩] 4):=ey (yi cd l_4 c_5) fun {Q K} hK self ih x4 y h hr hn=>by
 unfold iJ at h
 refine cq 6 [13,15] [I x4.1,.isl false (c_5.Parts.map au)] 52 ?_
 refine oq 68 (I (len c_5.Parts)) rfl (bG rfl rfl rfl (cH rfl)) ?_
 refine cq 2 [17] [B (decide (x4.1<(len c_5.Parts)))] 84 ?_
 refine sq h ?_ ?_<;>intro h
 ·refine aq 1 ?_
  refine cq 7 [20,22,23] [.hs 2 0 [] 1 0 (x4.2.map I).length,.isl false (c_5.Parts.map au),I x4.1] 148 ?_
  obtain⟨e5,he5,h⟩:=bS h
  refine oq 164 (.iptr (aa e5) 0) rfl (ao rfl rfl rfl (bH rfl rfl (bd e5) rfl he5)) ?_
  refine cq 1 [25] [aa e5] 180 ?_
  obtain⟨r6,hr6,h⟩:=bS h
  refine oq 196 (.hs 180 0 [] 1 0 (r6.map I).length) rfl (aW rfl rfl (bv rfl rfl rfl (fq (fb rfl (dH (path:=[]) rfl rfl aG rfl)) (bm (bK rfl) cy)) (Lw cd hr6) (.inr rfl) (fU rfl rfl rfl eu cI) rfl rfl rfl)) ?_
  refine cq 8 [0,5] [.hs 180 0 [] 1 0 (r6.map I).length,I (aj (x4.1+1))] 260 ?_
  refine cZ ?_
  exact rg [0,3,5] [261,180,3] (ih _ _ h hr hn :)
 ·refine aq 1 ?_
  exact rg [0] [85,2] (hn _ (ap h) :) (hk:=hK)
theorem RU (cd:((List Int)×Condition)→Option (List Int))(l_4:List Int)(c_5:Condition)(r:(List Int))(h:sL cd l_4 c_5=some r):bT (Iu cd) Tryz.f88 [true,false] 1 (vt (l_4,c_5)) (vu r):=by
 show Run _ _ (Pe cd (l_4,c_5) r) [.code Pf] _
 refine rI 28 [(0,.hs 1 0 [] 1 0 (l_4.map I).length),(1,aa c_5)] [(1,some ⟨0,1,l_4.map I⟩)] 2 ?_
 unfold sL at h
 refine ck 12 [3,8] [] [2] [] [.hp 2 0 [] 4 0 0,B (c_5.Op==3)] [some ⟨0,4,[aa c_5]⟩] 82 (by kernel_rfl) ?_
 refine sq h ?_ ?_<;>intro h
 ·refine cq 5 [9,11] [.hs 1 0 [] 1 0 (l_4.map I).length,I c_5.Day] 130 ?_
  obtain⟨r3,hr3,h⟩:=bS h
  refine oq 146 (.hs 130 0 [] 1 0 (r3.map I).length) rfl (aW rfl rfl (bv rfl rfl rfl (fq (fb rfl (dH (path:=[]) rfl rfl aG rfl)) (bm (bK rfl) cy)) (Ir hr3) (.inr rfl) (fU rfl rfl rfl eu cI) rfl rfl rfl)) ?_
  refine cq 2 [4] [.hs 130 0 [] 1 0 (r3.map I).length] 162 ?_
  obtain rfl:=sI h
  exact bR rfl ⟨_,fin (vs:=[.hs 130 0 [] 1 0 (r3.map I).length]) rfl (ec (fe rfl (dt rfl rfl)) dZ) rfl (kr rfl (jb rfl) (ed eH)),mq eE⟩
 ·refine aq 1 ?_
  refine cq 6 [5] [I (0)] 98 ?_
  obtain⟨y7,hy7,hy71,hy72⟩:=bJ h
  refine bZ rfl ?_
  refine rg [0,3,5] [99,1,2] (KL cd l_4 c_5 rfl (0,l_4) _ hy7 (fun r' e st hq=>by rw[hy71 r' e] at hq;exact hq) fun u7 hu=>?_)
  replace h:=hy72 u7 hu
  refine cq 5 [4] [.hs 2 0 [] 1 0 (u7.map I).length] 35 ?_
  obtain rfl:=sI h
  exact bR rfl ⟨_,fin (vs:=[.hs 2 0 [] 1 0 (u7.map I).length]) rfl (ec (fe rfl (dt rfl rfl)) dZ) rfl (kr rfl (jb rfl) (ed eH)),mq eE⟩
theorem Pg {G:cO}:cM G 88 zZ:=gx fun cd g_Ffck=>gT 2 1 (aU FO (aU g_Ffck bX)) cY Tryz.func88 (fun a r h=>RU cd a.1 a.2 r h)
def CU:((List ac)×Int)→List V:=cA (ln str) (oA I)
def CW (r:(List ac)):V×List V:=(.usl 1 (r.map str),[])
noncomputable def Al :=bC [false,false] CU CW fun x=>rF x.1 x.2
theorem WD {dw:List ac}{ef:Int}{r}(h:rF dw ef=some r):Al.F (CU (dw,ef))=some (CW r):=aQ (bB (d9 bI) (aR cu)) h
noncomputable def Py :=aK Tryz.f89
noncomputable abbrev EV :=cL (cL (cR (cL (cR (cR Py)))))
noncomputable def CV :=cX []
def IE (x:(List ac)×Int)(r:(List ac)):St→Prop:=QF CV Tryz.f89 [false,false] (CU x) (CW r)
theorem KU (dw:List ac)(ef:Int):cD CV 0 (IE (dw,ef)) EV 0 (qf dw ef) (fun u=>(sT 28 [(5,.hs 1 0 [] 1 0 (u.map str).length)] [⟨0,1,u.map str⟩] 2)) fun x3=>(sT 28 [(0,.isl false (dw.map str)),(1,I ef),(5,.hs 1 0 [] 1 0 (x3.2.map str).length),(6,I x3.1)] [⟨0,1,x3.2.map str⟩] 2):=ey (yw dw ef) fun {Q K} hK self ih x3 y h hr hn=>by
 unfold kQ at h
 refine cq 5 [8,9] [I x3.1,.isl false (dw.map str)] 34 ?_
 refine oq 50 (I (len dw)) rfl (bG rfl rfl rfl (cH rfl)) ?_
 refine cq 2 [11] [B (decide (x3.1<(len dw)))] 66 ?_
 refine sq h ?_ ?_<;>intro h
 ·refine aq 1 ?_
  refine cq 7 [14,16] [I ef,.int .u64 (IntKind.u64.wrap x3.1)] 114 ?_
  obtain⟨q4,hq4,h⟩:=bS h
  refine oq 130 (I q4) rfl (xi rfl rfl (T8 hq4)) ?_
  refine cq 3 [19] [B ((Jb .i64 q4 1)==1)] 162 ?_
  obtain⟨y5,hy5,hy51,hy52⟩:=bL h
  have j5:∀u5,y5=.inr u5→Run CV 0 Q (.blk 1::.code (cR (cR EV))::.lp EV::.blk 0::K) (sT 28 [(0,.isl false (dw.map str)),(1,I ef),(5,.hs 1 0 [] 1 0 (u5.map str).length),(6,I x3.1)] [⟨0,1,u5.map str⟩] 2):=by
   intro u5 hu
   replace h:=hy52 u5 hu
   refine cq 6 [6] [I (aj (x3.1+1))] 50 ?_
   refine cZ ?_
   exact rf [0,1,5,6] [1] (ih _ _ h hr hn :)
  have r5:∀r',y5=.inl r'→∀st,IE (dw,ef) r' st→Q st:=fun r' e st hq=>hr r' (hy51 r' e) st hq
  replace h:=hy5
  refine sq h ?_ ?_<;>intro h
  ·refine cq 4 [20,21,22] [.hs 1 0 [] 1 0 (x3.2.map str).length,.isl false (dw.map str),I x3.1] 210 ?_
   obtain⟨e6,he6,h⟩:=bS h
   refine oq 226 (.iptr (str e6) 0) rfl (ao rfl rfl rfl (bH rfl rfl rfl rfl he6)) ?_
   refine cq 1 [24] [str e6] 242 ?_
   refine oq 258 (.hs 242 0 [] 1 0 1) rfl (bW rfl (fh (f:=I) (xs:=[]) (z:=str ([])) (es:=[str e6]) (ws:=[str e6]) rfl rfl rfl (by decide) rfl (bz rfl) rfl)) ?_
   obtain⟨a7,ha7,h⟩:=bS h
   refine oq 274 (.hs 258 0 [] 1 0 (a7.map str).length) rfl (fW rfl rfl rfl rfl rfl (iL (path:=[]) (f:=str) (xs:=x3.2) (ys:=[e6]) rfl rfl (kq rfl rfl rfl) rfl rfl rfl aG rfl (by decide) iX ha7 rfl lO)) ?_
   refine cq 2 [5] [.hs 258 0 [] 1 0 (a7.map str).length] 290 ?_
   exact rf [0,1,5,6] [258] (j5 _ (ap h) :)
  ·refine aq 1 ?_
   exact rf [0,1,5,6] [1] (j5 _ (ap h) :)
 ·refine aq 1 ?_
  exact rf [5] [1] (hn _ (ap h) :) (hk:=hK)
theorem Sd (dw:List ac)(ef:Int)(r:(List ac))(h:rF dw ef=some r):bT CV Tryz.f89 [false,false] 0 (CU (dw,ef)) (CW r):=by
 show Run _ _ (IE (dw,ef) r) [.code Py] _
 refine rI 28 [(0,.isl false (dw.map str)),(1,I ef)] [] 1 ?_
 unfold rF at h
 refine cq 6 [] [] 17 ?_
 refine oq 33 (.hs 17 0 [] 1 0 0) rfl (bW rfl (fh (f:=I) (xs:=[]) (z:=str ([])) (es:=[]) (ws:=[]) rfl rfl rfl (by decide) rfl (bz rfl) rfl)) ?_
 refine cq 8 [5,6] [.hs 17 0 [] 1 0 0,I (0)] 65 ?_
 obtain⟨y8,hy8,hy81,hy82⟩:=bJ h
 refine bZ rfl ?_
 refine rf [0,1,5,6] [17] (KU dw ef rfl (0,[]) _ hy8 (fun r' e st hq=>by rw[hy81 r' e] at hq;exact hq) fun u8 hu=>?_)
 replace h:=hy82 u8 hu
 refine cq 5 [4] [.hs 1 0 [] 1 0 (u8.map str).length] 34 ?_
 obtain rfl:=sI h
 exact bR rfl ⟨_,fin (vs:=[.hs 1 0 [] 1 0 (u8.map str).length]) rfl (ec (fe rfl (dt rfl rfl)) dZ) rfl (ed (ed eH)),eE⟩
theorem Pz {G:cO}:cM G 89 Al:=gT 2 0 bX cY Tryz.func89 (fun a r h=>Sd a.1 a.2 r h)
def vz:(Condition×(List ac)×Int)→List V:=cA aE (cA (ln str) (oA I))
def vA (r:Bool):V×List V:=(B r,[])
noncomputable def vB (cl:(Condition×(List ac)×Int)→Option Bool):Ent:=bC [false,false,false] vz vA cl
theorem qe (cl:(Condition×(List ac)×Int)→Option Bool){x}{r}(h:cl x=some r):(vB cl).F (vz x)=some (vA r):=aQ (bB bf (bB (d9 bI) (aR cu))) h
noncomputable def Ah :=vB (aA jg)
theorem CF {c_1:Condition}{bi:List ac}{bV:Int}{r}(h:tN c_1 bi bV=some r):Ah.F (vz (c_1,bi,bV))=some (vA r):=qe (aA jg) h
noncomputable def CG :=aK Tryz.f90
noncomputable def CE (cl:(Condition×(List ac)×Int)→Option Bool):Env:=cX [(84,tM),(90,(vB cl))]
def qq (cl:(Condition×(List ac)×Int)→Option Bool)(x:Condition×(List ac)×Int)(r:Bool):St→Prop:=QF (CE cl) Tryz.f90 [false,false,false] (vz x) (vA r)
theorem R4 (cl:(Condition×(List ac)×Int)→Option Bool)(c_1:Condition)(bi:List ac)(bV:Int)(r:Bool)(h:sN cl c_1 bi bV=some r):bT (CE cl) Tryz.f90 [false,false,false] 0 (vz (c_1,bi,bV)) (vA r):=by
 show Run _ _ (qq cl (c_1,bi,bV) r) [.code CG] _
 refine rI 67 [(0,aa c_1),(1,.isl false (bi.map str)),(2,I bV)] [] 1 ?_
 unfold sN at h
 refine ck 17 [3,8,9] [] [1] [] [.hp 1 0 [] 4 0 0,I c_1.Op,B (c_1.Op==1)] [some ⟨0,4,[aa c_1]⟩] 97 (by kernel_rfl) ?_
 refine sq h ?_ ?_<;>intro h
 ·refine cq 4 [6] [B true] 113 ?_
  obtain rfl:=sI h
  exact rP [B true]
 ·refine cq 5 [11] [B (c_1.Op==2)] 129 ?_
  refine sq h ?_ ?_<;>intro h
  ·refine cq 5 [13,15] [.isl false (bi.map str),str c_1.Name] 177 ?_
   obtain⟨r4,hr4,h⟩:=bS h
   refine oq 193 (B r4) rfl (cP (Iy hr4)) ?_
   refine cq 2 [6] [B r4] 209 ?_
   obtain rfl:=sI h
   exact rP [B r4]
  ·refine cq 5 [17] [B (c_1.Op==3)] 161 ?_
   refine sq h ?_ ?_<;>intro h
   ·refine cq 8 [6] [B (decide (bV≥c_1.Day))] 241 ?_
    obtain rfl:=sI h
    exact rP [B (decide (bV≥c_1.Day))]
   ·refine cq 5 [23] [B (c_1.Op==4)] 193 ?_
    refine sq h ?_ ?_<;>intro h
    ·refine cq 4 [26] [.isl false (c_1.Parts.map au)] 225 ?_
     obtain⟨e5,he5,h⟩:=bS h
     refine oq 241 (.iptr (aa e5) 0) rfl (ao rfl rfl rfl (bH rfl rfl (bd e5) rfl he5)) ?_
     refine cq 3 [28,29,30] [aa e5,.isl false (bi.map str),I bV] 289 ?_
     obtain⟨r6,hr6,h⟩:=bS h
     refine oq 305 (B r6) rfl (aW rfl rfl (bv rfl rfl rfl (bm (bK rfl) (bm (bK rfl) (bm (bK rfl) cy))) (qe cl hr6) (.inr rfl) cI rfl rfl rfl)) ?_
     refine cq 3 [6] [B (!r6)] 337 ?_
     obtain rfl:=sI h
     exact rP [B (!r6)]
    ·refine cq 5 [33] [B (c_1.Op==5)] 225 ?_
     refine sq h ?_ ?_<;>intro h
     ·refine cq 4 [36] [.isl false (c_1.Parts.map au)] 257 ?_
      obtain⟨e7,he7,h⟩:=bS h
      refine oq 273 (.iptr (aa e7) 0) rfl (ao rfl rfl rfl (bH rfl rfl (bd e7) rfl he7)) ?_
      refine cq 3 [38,39,40] [aa e7,.isl false (bi.map str),I bV] 321 ?_
      obtain⟨r8,hr8,h⟩:=bS h
      refine oq 337 (B r8) rfl (aW rfl rfl (bv rfl rfl rfl (bm (bK rfl) (bm (bK rfl) (bm (bK rfl) cy))) (qe cl hr8) (.inr rfl) cI rfl rfl rfl)) ?_
      refine cq 1 [42] [B r8] 353 ?_
      obtain⟨y9,hy9,hy91,hy92⟩:=bJ h
      have j9:∀u9,y9=.inr u9→Run (CE cl) 0 (qq cl (c_1,bi,bV) r) (.code (cR (cL (cR (cR (cR (cR (cR (cR (cR (cR (cR (cL (cR (cL (cR CG)))))))))))))))::.blk 0::.code (cR (cR CG))::[]) (sT 67 [(6,B u9)] [] 1):=by
       intro u9 hu
       replace h:=hy92 u9 hu
       obtain rfl:=sI h
       exact rP [B u9]
      have r9:∀r',y9=.inl r'→∀st,qq cl (c_1,bi,bV) r' st→(qq cl (c_1,bi,bV) r) st:=fun r' e st hq=>by rw[hy91 r' e] at hq;exact hq
      replace h:=hy9
      refine sp 42 h rfl ?_ ?_<;>intro h
      ·refine cq 2 [44] [.isl false (c_1.Parts.map au)] 385 ?_
       obtain⟨e10,he10,h⟩:=bS h
       refine oy 401 (.iptr (aa e10) 0) rfl (ao rfl rfl rfl (bH rfl rfl (bd e10) rfl he10)) ?_
       refine cq 3 [46,47,48] [aa e10,.isl false (bi.map str),I bV] 449 ?_
       obtain⟨r11,hr11,h⟩:=bS h
       refine oy 465 (B r11) rfl (aW rfl rfl (bv rfl rfl rfl (bm (bK rfl) (bm (bK rfl) (bm (bK rfl) cy))) (qe cl hr11) (.inr rfl) cI rfl rfl rfl)) ?_
       refine cq 3 [6] [B r11] 497 ?_
       exact rf [6] [] (j9 _ (ap h) :)
      ·refine cq 10 [6] [B false] 497 ?_
       exact rf [6] [] (j9 _ (ap h) :)
     ·refine aq 1 ?_
      refine cq 5 [52] [.isl false (c_1.Parts.map au)] 257 ?_
      obtain⟨e12,he12,h⟩:=bS h
      refine oq 273 (.iptr (aa e12) 0) rfl (ao rfl rfl rfl (bH rfl rfl (bd e12) rfl he12)) ?_
      refine cq 3 [54,55,56] [aa e12,.isl false (bi.map str),I bV] 321 ?_
      obtain⟨r13,hr13,h⟩:=bS h
      refine oq 337 (B r13) rfl (aW rfl rfl (bv rfl rfl rfl (bm (bK rfl) (bm (bK rfl) (bm (bK rfl) cy))) (qe cl hr13) (.inr rfl) cI rfl rfl rfl)) ?_
      refine cq 1 [58] [B r13] 353 ?_
      obtain⟨y14,hy14,hy141,hy142⟩:=bJ h
      have j14:∀u14,y14=.inr u14→Run (CE cl) 0 (qq cl (c_1,bi,bV) r) (.code (cR (cR (cR CG)))::[]) (sT 67 [(6,B u14)] [] 1):=by
       intro u14 hu
       replace h:=hy142 u14 hu
       obtain rfl:=sI h
       exact rP [B u14]
      have r14:∀r',y14=.inl r'→∀st,qq cl (c_1,bi,bV) r' st→(qq cl (c_1,bi,bV) r) st:=fun r' e st hq=>by rw[hy141 r' e] at hq;exact hq
      replace h:=hy14
      refine sp 58 h rfl ?_ ?_<;>intro h
      ·refine cq 10 [6] [B true] 497 ?_
       exact rf [6] [] (j14 _ (ap h) :)
      ·refine cq 2 [60] [.isl false (c_1.Parts.map au)] 385 ?_
       obtain⟨e15,he15,h⟩:=bS h
       refine oy 401 (.iptr (aa e15) 0) rfl (ao rfl rfl rfl (bH rfl rfl (bd e15) rfl he15)) ?_
       refine cq 3 [62,63,64] [aa e15,.isl false (bi.map str),I bV] 449 ?_
       obtain⟨r16,hr16,h⟩:=bS h
       refine oy 465 (B r16) rfl (aW rfl rfl (bv rfl rfl rfl (bm (bK rfl) (bm (bK rfl) (bm (bK rfl) cy))) (qe cl hr16) (.inr rfl) cI rfl rfl rfl)) ?_
       refine cq 3 [6] [B r16] 497 ?_
       exact rf [6] [] (j14 _ (ap h) :)
theorem Pq {G:cO}:cM G 90 Ah:=gx fun cl g_Ffcp=>gT 3 0 (aU FP (aU g_Ffcp bX)) cY Tryz.func90 (fun a r h=>R4 cl a.1 a.2.1 a.2.2 r h)
def CH:(Condition×Condition)→List V:=cA aE (oA aE)
def CJ (r:Bool):V×List V:=(B r,[])
noncomputable def Ai :=bC [false,false] CH CJ fun x=>EU x.1 x.2
theorem WA {a_1:Condition}{b_2:Condition}{r}(h:EU a_1 b_2=some r):Ai.F (CH (a_1,b_2))=some (CJ r):=aQ (bB bf (aR bf)) h
noncomputable def Iz :=aK Tryz.f60
noncomputable abbrev wS :=cL (cL (cR (cR (cL (cL (cR (cL (cL (cR (cL (cR (cR (cR Iz)))))))))))))
noncomputable def vC :=cX [(59,qt),(88,zZ),(87,tL),(89,Al),(90,Ah)]
def CI (x:Condition×Condition)(r:Bool):St→Prop:=QF vC Tryz.f60 [false,false] (CH x) (CJ r)
theorem KP (a_1:Condition)(b_2:Condition)(r7:(List Int))(r10:(List ac))(r4:(List ac))(x8:Int):cD vC 0 (CI (a_1,b_2)) wS 2 (mI a_1 b_2 r7 r10 r4 x8) (fun u=>(sT 55 [(2,.hp 1 0 [] 4 0 0),(3,.hp 2 0 [] 4 0 0),(5,.hs 3 0 [] 1 0 (r4.map str).length),(6,.hs 4 0 [] 1 0 (r7.map I).length),(7,I x8)] [⟨0,4,[aa a_1]⟩,⟨0,4,[aa b_2]⟩,⟨0,1,r4.map str⟩,⟨0,1,r7.map I⟩] 5)) fun x11=>(sT 55 [(2,.hp 1 0 [] 4 0 0),(3,.hp 2 0 [] 4 0 0),(5,.hs 3 0 [] 1 0 (r4.map str).length),(6,.hs 4 0 [] 1 0 (r7.map I).length),(7,I x8),(8,.hs 5 0 [] 1 0 (r10.map str).length),(9,I x11)] [⟨0,4,[aa a_1]⟩,⟨0,4,[aa b_2]⟩,⟨0,1,r4.map str⟩,⟨0,1,r7.map I⟩,⟨0,1,r10.map str⟩] 6):=ey (yo a_1 b_2 r7 r10 r4 x8) fun {Q K} hK self ih x11 y h hr hn=>by
 unfold kN at h
 refine cq 5 [32,33] [I x11,.hs 4 0 [] 1 0 (r7.map I).length] 38 ?_
 refine oq 54 (I (len r7)) rfl (bG rfl rfl rfl (gS (f:=I) (xs:=r7) rfl rfl)) ?_
 refine cq 2 [35] [B (decide (x11<(len r7)))] 70 ?_
 refine sq h ?_ ?_<;>intro h
 ·refine aq 1 ?_
  refine aq 3 ?_
  refine fa [0,0,0,0,12,28,63,127,255,255,255,255,3327,7423,16383,32767,65535] rfl (by decide +kernel) ?_
  refine dq [1] [] (aa a_1) rfl (cF rfl rfl) ?_
  refine dk 3 [41,40,39] [I x11,.hs 4 0 [] 1 0 (r7.map I).length,.hs 5 0 [] 1 0 (r10.map str).length] ?_
  obtain⟨e12,he12,h⟩:=bS h
  refine dq [4] [] (.hp 4 0 [] 1 (0+Int.toNat x11) 0) rfl (ao rfl rfl rfl (dJ (f:=I) (xs:=r7) rfl rfl rfl he12)) ?_
  refine dq [4] [] (I e12) rfl (cF rfl (iR (path:=[]) rfl rfl rfl aG (cT (f:=I) (xs:=r7) he12) rfl rfl rfl)) ?_
  obtain⟨r13,hr13,h⟩:=bS h
  refine dq [5] [] (B r13) rfl (aW rfl rfl (bv rfl rfl rfl (bm (bK rfl) (bm (pD rfl rfl (eT (f:=str) (g:=str) (xs:=r10) rfl rfl (dE gC))) (bm (bK rfl) cy))) (CF hr13) (.inl rfl) cI rfl rfl rfl)) ?_ (dY rfl rfl rfl rfl (bm (bK rfl) (bm (pD rfl rfl (eT (f:=str) (g:=str) (xs:=r10) rfl rfl (dE gC))) (bm (bK rfl) cy))) (CF hr13) (.inl rfl) rfl)
  refine dk 1 [45] [B r13] ?_
  obtain⟨y14,hy14,hy141,hy142⟩:=bL h
  have j14:∀u14,y14=.inr u14→Run vC 0 Q (.code (cR (cL (cL (cR wS))))::.blk 3::.code (cR (cR wS))::.lp wS::.blk 2::K) (sT 55 [(2,.hp 1 0 [] 4 0 0),(3,.hp 2 0 [] 4 0 0),(5,.hs 3 0 [] 1 0 (r4.map str).length),(6,.hs 4 0 [] 1 0 (r7.map I).length),(7,I x8),(8,.hs 5 0 [] 1 0 (r10.map str).length),(9,I x11),(54,B u14)] [⟨0,4,[aa a_1]⟩,⟨0,4,[aa b_2]⟩,⟨0,1,r4.map str⟩,⟨0,1,r7.map I⟩,⟨0,1,r10.map str⟩] 6):=by
   intro u14 hu
   replace h:=hy142 u14 hu
   refine sq h ?_ ?_<;>intro h
   ·refine cq 4 [4] [B false] 22 ?_
    exact bR rfl (hr _ (ap h) _ (qp [B false]))
   ·refine aq 1 ?_
    refine cq 6 [9] [I (aj (x11+1))] 54 ?_
    refine cZ ?_
    exact rf [2,3,5,6,7,8,9] [1,2,3,4,5] (ih _ _ h hr hn :)
  have r14:∀r',y14=.inl r'→∀st,CI (a_1,b_2) r' st→Q st:=fun r' e st hq=>hr r' (hy141 r' e) st hq
  replace h:=hy14
  refine sp 45 h rfl ?_ ?_<;>intro h
  ·refine dy [2] [] (aa b_2) rfl (cF rfl rfl) ?_
   refine dk 3 [49,48,47] [I x11,.hs 4 0 [] 1 0 (r7.map I).length,.hs 5 0 [] 1 0 (r10.map str).length] ?_
   obtain⟨e15,he15,h⟩:=bS h
   refine dy [4] [] (.hp 4 0 [] 1 (0+Int.toNat x11) 0) rfl (ao rfl rfl rfl (dJ (f:=I) (xs:=r7) rfl rfl rfl he15)) ?_
   refine dy [4] [] (I e15) rfl (cF rfl (iR (path:=[]) rfl rfl rfl aG (cT (f:=I) (xs:=r7) he15) rfl rfl rfl)) ?_
   obtain⟨r16,hr16,h⟩:=bS h
   refine dy [5] [] (B r16) rfl (aW rfl rfl (bv rfl rfl rfl (bm (bK rfl) (bm (pD rfl rfl (eT (f:=str) (g:=str) (xs:=r10) rfl rfl (dE gC))) (bm (bK rfl) cy))) (CF hr16) (.inl rfl) cI rfl rfl rfl)) ?_ (dY rfl rfl rfl rfl (bm (bK rfl) (bm (pD rfl rfl (eT (f:=str) (g:=str) (xs:=r10) rfl rfl (dE gC))) (bm (bK rfl) cy))) (CF hr16) (.inl rfl) rfl)
   refine dk 2 [54,53] [B (!r16),B (!r16)] ?_
   refine de 342 rfl rfl ?_
   exact rf [2,3,5,6,7,8,9,54] [1,2,3,4,5] (j14 _ (ap h) :)
  ·refine dk 9 [54,53,52,51,50,49,48,47,46] [B false,.und,.und,.und,.und,.und,.und,.und,.und] ?_
   refine de 342 rfl rfl ?_
   exact rf [2,3,5,6,7,8,9,54] [1,2,3,4,5] (j14 _ (ap h) :)
 ·refine aq 1 ?_
  exact rf [2,3,5,6,7] [1,2,3,4] (hn _ (ap h) :) (hk:=hK)
theorem KO (a_1:Condition)(b_2:Condition)(r4:(List ac))(r7:(List Int)):cD vC 0 (CI (a_1,b_2)) (cL (cL (cR (cL (cR (cR (cR Iz))))))) 0 (mH a_1 b_2 r4 r7) (fun u=>(sT 55 [] [] 1)) fun x8=>(sT 55 [(2,.hp 1 0 [] 4 0 0),(3,.hp 2 0 [] 4 0 0),(5,.hs 3 0 [] 1 0 (r4.map str).length),(6,.hs 4 0 [] 1 0 (r7.map I).length),(7,I x8)] [⟨0,4,[aa a_1]⟩,⟨0,4,[aa b_2]⟩,⟨0,1,r4.map str⟩,⟨0,1,r7.map I⟩] 5):=ey (ym a_1 b_2 r4 r7) fun {Q K} hK self ih x8 y h hr hn=>by
 unfold kM at h
 refine cq 5 [21,22] [I x8,.hs 3 0 [] 1 0 (r4.map str).length] 37 ?_
 refine oq 53 (I (len r4)) rfl (bG rfl rfl rfl (gS (f:=str) (xs:=r4) rfl rfl)) ?_
 refine cq 1 [24] [.int .u64 (IntKind.u64.wrap (len r4))] 69 ?_
 obtain⟨q9,hq9,h⟩:=bS h
 refine oq 85 (I q9) rfl (xi rfl rfl (T7 hq9)) ?_
 refine cq 2 [26] [B (decide (x8<q9))] 101 ?_
 refine sq h ?_ ?_<;>intro h
 ·refine aq 1 ?_
  refine cq 6 [29,30] [.hs 3 0 [] 1 0 (r4.map str).length,I x8] 133 ?_
  obtain⟨r10,hr10,h⟩:=bS h
  refine oq 149 (.hs 133 0 [] 1 0 (r10.map str).length) rfl (aW rfl rfl (bv rfl rfl rfl (bm (pD rfl rfl (eT (f:=str) (g:=str) (xs:=r4) rfl rfl (dE gC))) (bm (bK rfl) cy)) (WD hr10) (.inl (by simp[cr,di,str,oB (f:=str) Tu])) cI rfl rfl rfl)) ?_
  refine cq 7 [8,9] [.hs 133 0 [] 1 0 (r10.map str).length,I (0)] 181 ?_
  obtain⟨y17,hy17,hy171,hy172⟩:=bL h
  refine bZ rfl ?_
  refine rf [2,3,5,6,7,8,9] [1,2,3,4,133] (KP a_1 b_2 r7 r10 r4 x8 rfl 0 _ hy17 (fun r' e st hq=>hr r' (hy171 r' e) st hq) fun u17 hu=>?_)
  replace h:=hy172 u17 hu
  refine cq 6 [7] [I (aj (x8+1))] 53 ?_
  refine cZ ?_
  exact rf [2,3,5,6,7] [1,2,3,4] (ih _ _ h hr hn :)
 ·refine aq 1 ?_
  exact rf [] [] (hn _ (ap h) :) (hk:=hK)
theorem R5 (a_1:Condition)(b_2:Condition)(r:Bool)(h:EU a_1 b_2=some r):bT vC Tryz.f60 [false,false] 0 (CH (a_1,b_2)) (CJ r):=by
 show Run _ _ (CI (a_1,b_2) r) [.code Iz] _
 refine rI 55 [(0,aa a_1),(1,aa b_2)] [] 1 ?_
 unfold EU at h
 refine ck 7 [2,3] [] [1,17] [] [.hp 1 0 [] 4 0 0,.hp 17 0 [] 4 0 0] [some ⟨0,4,[aa a_1]⟩,some ⟨0,4,[aa b_2]⟩] 49 (by kernel_rfl) ?_
 refine fa [0,0,3,0,15,31] rfl (by decide +kernel) ?_
 refine dq [] [] (.hs 49 0 [] 1 0 0) rfl (bW rfl (fh (f:=I) (xs:=[]) (z:=str ([])) (es:=[]) (ws:=[]) rfl rfl rfl (by decide) rfl (bz rfl) rfl)) ?_
 refine dq [1] [] (aa a_1) rfl (cF rfl rfl) ?_
 obtain⟨r3,hr3,h⟩:=bS h
 refine dq [49] [49] (.hs 81 0 [] 1 0 (r3.map str).length) rfl (aW rfl rfl (bv rfl rfl rfl (fq (fb rfl (dH (path:=[]) (m:=0) (es2:=[]) rfl rfl aG rfl)) (bm (bK rfl) cy)) (lQ hr3) (.inr rfl) (fU rfl rfl rfl eu cI) rfl rfl rfl)) ?_ (dY rfl rfl rfl rfl (fq (fb rfl (dH (path:=[]) (m:=0) (es2:=[]) rfl rfl aG rfl)) (bm (bK rfl) cy)) (lQ hr3) (.inr rfl) rfl)
 refine dq [17] [] (aa b_2) rfl (cF rfl rfl) ?_
 obtain⟨r4,hr4,h⟩:=bS h
 refine dq [81] [81] (.hs 113 0 [] 1 0 (r4.map str).length) rfl (aW rfl rfl (bv rfl rfl rfl (fq (fb rfl (dH (path:=[]) rfl rfl aG rfl)) (bm (bK rfl) cy)) (lQ hr4) (.inr rfl) (fU rfl rfl rfl eu cI) rfl rfl rfl)) ?_ (dY rfl rfl rfl rfl (fq (fb rfl (dH (path:=[]) rfl rfl aG rfl)) (bm (bK rfl) cy)) (lQ hr4) (.inr rfl) rfl)
 refine dk 1 [5] [.hs 113 0 [] 1 0 (r4.map str).length] ?_
 refine de 145 rfl rfl ?_
 refine aq 1 ?_
 refine fa [0,0,3,0,15,31,63] rfl (by decide +kernel) ?_
 refine dq [] [] (.hs 145 0 [] 1 0 0) rfl (bW rfl (fh (f:=I) (xs:=[]) (z:=I (0)) (es:=[]) (ws:=[]) rfl rfl rfl (by decide) rfl (bz rfl) rfl)) ?_
 refine dq [1] [] (aa a_1) rfl (cF rfl rfl) ?_
 obtain⟨r5,hr5,h⟩:=bS h
 refine dq [145] [145] (.hs 177 0 [] 1 0 (r5.map I).length) rfl (aW rfl rfl (bv rfl rfl rfl (fq (fb rfl (dH (path:=[]) (m:=0) (es2:=[]) rfl rfl aG rfl)) (bm (bK rfl) cy)) (Cu hr5) (.inr rfl) (fU rfl rfl rfl eu cI) rfl rfl rfl)) ?_ (dY rfl rfl rfl rfl (fq (fb rfl (dH (path:=[]) (m:=0) (es2:=[]) rfl rfl aG rfl)) (bm (bK rfl) cy)) (Cu hr5) (.inr rfl) rfl)
 refine dq [17] [] (aa b_2) rfl (cF rfl rfl) ?_
 obtain⟨r6,hr6,h⟩:=bS h
 refine dq [177] [177] (.hs 209 0 [] 1 0 (r6.map I).length) rfl (aW rfl rfl (bv rfl rfl rfl (fq (fb rfl (dH (path:=[]) rfl rfl aG rfl)) (bm (bK rfl) cy)) (Cu hr6) (.inr rfl) (fU rfl rfl rfl eu cI) rfl rfl rfl)) ?_ (dY rfl rfl rfl rfl (fq (fb rfl (dH (path:=[]) rfl rfl aG rfl)) (bm (bK rfl) cy)) (Cu hr6) (.inr rfl) rfl)
 obtain⟨r7,hr7,h⟩:=bS h
 refine dq [209] [209] (.hs 225 0 [] 1 0 (r7.map I).length) rfl (aW rfl rfl (bv rfl rfl rfl (fq (fb rfl (dH (path:=[]) rfl rfl aG rfl)) (bm (bK rfl) cy)) (Ir hr7) (.inr rfl) (fU rfl rfl rfl eu cI) rfl rfl rfl)) ?_ (dY rfl rfl rfl rfl (fq (fb rfl (dH (path:=[]) rfl rfl aG rfl)) (bm (bK rfl) cy)) (Ir hr7) (.inr rfl) rfl)
 refine dk 1 [6] [.hs 225 0 [] 1 0 (r7.map I).length] ?_
 refine de 257 rfl rfl ?_
 refine cq 6 [7] [I (0)] 273 ?_
 obtain⟨y18,hy18,hy181,hy182⟩:=bJ h
 refine bZ rfl ?_
 refine rf [2,3,5,6,7] [1,17,113,225] (KO a_1 b_2 r4 r7 rfl 0 _ hy18 (fun r' e st hq=>by rw[hy181 r' e] at hq;exact hq) fun u18 hu=>?_)
 replace h:=hy182 u18 hu
 refine cq 4 [4] [B true] 17 ?_
 obtain rfl:=sI h
 exact rP [B true]
theorem Pr {G:cO}:cM G 60 Ai:=gT 2 0 (aU vI (aU Pg (aU FO (aU Pz (aU Pq bX))))) cY Tryz.func60 (fun a r h=>R5 a.1 a.2 r h)
def Cm:(Condition×Condition)→List V:=cA aE (oA aE)
def Cn (r:Bool):V×List V:=(B r,[])
noncomputable def zX :=bC [false,false] Cm Cn fun x=>tK x.1 x.2
theorem Wr {a_1:Condition}{b_2:Condition}{r}(h:tK a_1 b_2=some r):zX.F (Cm (a_1,b_2))=some (Cn r):=aQ (bB bf (aR bf)) h
noncomputable def Wt :=aK Tryz.f31
noncomputable def Pa :=cX [(60,Ai)]
def Ws (x:Condition×Condition)(r:Bool):St→Prop:=QF Pa Tryz.f31 [false,false] (Cm x) (Cn r)
theorem RQ (a_1:Condition)(b_2:Condition)(r:Bool)(h:tK a_1 b_2=some r):bT Pa Tryz.f31 [false,false] 0 (Cm (a_1,b_2)) (Cn r):=by
 show Run _ _ (Ws (a_1,b_2) r) [.code Wt] _
 refine rI 11 [(0,aa a_1),(1,aa b_2)] [] 1 ?_
 unfold tK at h
 refine cq 10 [5,6] [aa a_1,aa b_2] 81 ?_
 refine oq 97 (.hs 81 0 [] 4 0 1) rfl (bW rfl (fh (f:=I) (xs:=[]) (z:=.agg [I (0),str ([]),I (0),.isl true []]) (es:=[aa b_2]) (ws:=[aa b_2]) rfl rfl rfl (by decide) rfl (bz rfl) rfl)) ?_
 refine cq 1 [8] [.agg [I (4),str ([]),I (0),.hs 81 0 [] 4 0 1]] 113 ?_
 obtain⟨r3,hr3,h⟩:=bS h
 refine oq 129 (B r3) rfl (aW rfl rfl (bv rfl rfl rfl (bm (bK rfl) (bm (EE (lj (J9 rfl) (lj (J9 rfl) (lj (J9 rfl) (lj (Xp (g:=au) (xs:=[b_2]) (es:=[aa b_2]) rfl rfl (jt ((bd b_2).symm) rfl)) yW))))) cy)) (WA hr3) (.inl rfl) cI rfl rfl rfl)) ?_
 refine cq 3 [4] [B (!r3)] 161 ?_
 obtain rfl:=sI h
 exact rP [B (!r3)]
theorem Pb {G:cO}:cM G 31 zX:=gT 2 0 (aU Pr bX) cY Tryz.func31 (fun a r h=>RQ a.1 a.2 r h)
def Ce:Contract→List V:=oA aO
def Cf (r:(List ArrInt2)×Bool):V×List V:=(.tup [.usl 2 (r.1.map ah),B r.2],[])
noncomputable def zU :=bC [false] Ce Cf fun x=>zT x
theorem Wm {c_1:Contract}{r}(h:zT c_1=some r):zU.F (Ce c_1)=some (Cf r):=aQ (aR bN) h
noncomputable def Ip :=aK Tryz.f7
noncomputable abbrev ol :=cL (cL (cR (cL (cL (cR (cL (cL (cR (cL (cR (cR (cR Ip))))))))))))
noncomputable abbrev EQ :=cR (cR ol)
noncomputable abbrev Lu :=cR (cR (cL (cL (cR ol))))
noncomputable abbrev Lv :=cR (cL (cR (cL (cL (cR ol)))))
noncomputable def qm :=cX [(28,Ap),(30,zW),(31,zX),(29,zV)]
def sH (x:Contract)(r:(List ArrInt2)×Bool):St→Prop:=QF qm Tryz.f7 [false] (Ce x) (Cf r)
theorem KJ (c_1:Contract)(x3:Int×(List ArrInt2)):cD qm 0 (sH c_1) ol 2 (lu c_1 x3) (fun u=>(sT 71 [(1,.hp 1 0 [] 2 0 0),(4,.hs 2 0 [] 2 0 (u.map ah).length),(5,I x3.1)] [⟨0,2,[ak c_1]⟩,⟨0,2,u.map ah⟩] 3)) fun x4=>(sT 71 [(1,.hp 1 0 [] 2 0 0),(4,.hs 2 0 [] 2 0 (x4.2.map ah).length),(5,I x3.1),(6,I x4.1)] [⟨0,2,[ak c_1]⟩,⟨0,2,x4.2.map ah⟩] 3):=ey (yg c_1 x3) fun {Q K} hK self ih x4 y h hr hn=>by
 unfold iI at h
 refine cq 6 [21,23] [I x4.1,.isl false (c_1.Clauses.map ar)] 51 ?_
 refine oq 67 (I (len c_1.Clauses)) rfl (bG rfl rfl rfl (cH rfl)) ?_
 refine cq 2 [25] [B (decide (x4.1<(len c_1.Clauses)))] 83 ?_
 refine sq h ?_ ?_<;>intro h
 ·refine aq 1 ?_
  refine aq 3 ?_
  refine fa [0,1,0,7,15,0,32,0,224,480,0,0,3103,8191] rfl (by decide +kernel) ?_
  refine dq [1] [] (.hp 1 0 [] 2 0 1) rfl (dM rfl rfl rfl) ?_
  refine dq [1] [] (.isl false (c_1.Clauses.map ar)) rfl (cF rfl rfl) ?_
  refine dk 1 [30] [I x3.1] ?_
  obtain⟨e5,he5,h⟩:=bS h
  refine dq [] [] (.iptr (al e5) 0) rfl (ao rfl rfl rfl (bH rfl rfl rfl rfl he5)) ?_
  refine dq [] [] (al e5) rfl (cF rfl rfl) ?_
  refine dq [1] [] (.hp 1 0 [] 2 0 1) rfl (dM rfl rfl rfl) ?_
  refine dq [1] [] (.isl false (c_1.Clauses.map ar)) rfl (cF rfl rfl) ?_
  refine dk 1 [35] [I x4.1] ?_
  obtain⟨e6,he6,h⟩:=bS h
  refine dq [] [] (.iptr (al e6) 0) rfl (ao rfl rfl rfl (bH rfl rfl rfl rfl he6)) ?_
  refine dq [] [] (al e6) rfl (cF rfl rfl) ?_
  refine dq [] [] (.hp 243 0 [] 12 0 0) rfl (Jo (z:=.agg [str ([]),I (0),I (0),str ([]),I (0),I (0),I (0),str ([]),I (0),.isl true [],I (0),str ([])]) rfl rfl rfl) ?_
  refine dq [] [] (.hp 259 0 [] 12 0 0) rfl (Jo (z:=.agg [str ([]),I (0),I (0),str ([]),I (0),I (0),I (0),str ([]),I (0),.isl true [],I (0),str ([])]) rfl rfl rfl) ?_
  refine dz [243] [243] rfl (fw rfl rfl (eq (path:=[]) (pl:=true) (e':=al e5) (es2':=[al e5]) rfl (bq rfl) rfl rfl rfl aG rfl rfl rfl rfl rfl d7 0 rfl)) ?_
  refine dz [259] [259] rfl (fw rfl rfl (eq (path:=[]) (pl:=true) (e':=al e6) (es2':=[al e6]) rfl (bq rfl) rfl rfl rfl aG rfl rfl rfl rfl rfl d7 0 rfl)) ?_
  refine de 307 rfl rfl ?_
  refine cq 7 [41] [B (e5.Kind != 1)] 371 ?_
  obtain⟨y7,hy7,hy71,hy72⟩:=bL h
  have j7:∀u7,y7=.inr u7→Run qm 0 Q (.code Lv::.code Lu::.blk 3::.code EQ::.lp ol::.blk 2::K) (sT 71 [(1,.hp 1 0 [] 2 0 0),(4,.hs 2 0 [] 2 0 (x4.2.map ah).length),(5,I x3.1),(6,I x4.1),(7,.hp 3 0 [] 12 0 0),(8,.hp 4 0 [] 12 0 0),(51,B u7)] [⟨0,2,[ak c_1]⟩,⟨0,2,x4.2.map ah⟩,⟨0,12,[al e5]⟩,⟨0,12,[al e6]⟩] 5):=by
   intro u7 hu
   replace h:=hy72 u7 hu
   refine sq h ?_ ?_<;>intro h
   ·refine cq 6 [6] [I (aj (x4.1+1))] 53 ?_
    refine cZ ?_
    exact rf [1,4,5,6] [1,2] (ih _ _ h hr hn :)
   ·refine aq 1 ?_
    refine cq 7 [53,55] [aa e5.When,aa e6.When] 69 ?_
    obtain⟨r8,hr8,h⟩:=bS h
    refine oq 85 (B r8) rfl (cP (Wo hr8)) ?_
    refine cq 2 [57] [B (!r8)] 101 ?_
    refine sq h ?_ ?_<;>intro h
    ·refine aq 2 ?_
     refine oq 117 (.hs 101 0 [] 2 0 0) rfl (bW rfl (fh (f:=I) (xs:=[]) (z:=.agg [I (0),I (0)]) (es:=[]) (ws:=[]) rfl rfl rfl (by decide) rfl (bz rfl) rfl)) ?_
     refine cq 3 [2,3] [.hs 101 0 [] 2 0 0,B false] 149 ?_
     exact bR rfl (hr _ (ap h) _ ⟨_,fin (vs:=[.hs 101 0 [] 2 0 0,B false]) rfl (ec (fe rfl (dt (k:=0) (es:=[]) rfl rfl)) (ec (bq rfl) dZ)) rfl (ed eH),eE⟩)
    ·refine aq 1 ?_
     refine cq 6 [60,62] [aa e5.When,aa e6.When] 165 ?_
     obtain⟨r9,hr9,h⟩:=bS h
     refine oq 181 (B r9) rfl (cP (Wr hr9)) ?_
     refine aq 1 ?_
     obtain⟨y10,hy10,hy101,hy102⟩:=bL h
     have j10:∀u10,y10=.inr u10→Run qm 0 Q (.blk 3::.code EQ::.lp ol::.blk 2::K) (sT 71 [(1,.hp 1 0 [] 2 0 0),(4,.hs 2 0 [] 2 0 (u10.map ah).length),(5,I x3.1),(6,I x4.1)] [⟨0,2,[ak c_1]⟩,⟨0,2,u10.map ah⟩] 3):=by
      intro u10 hu
      replace h:=hy102 u10 hu
      refine cq 6 [6] [I (aj (x4.1+1))] 51 ?_
      refine cZ ?_
      exact rf [1,4,5,6] [1,2] (ih _ _ h hr hn :)
     have r10:∀r',y10=.inl r'→∀st,sH c_1 r' st→Q st:=fun r' e st hq=>hr r' (hy101 r' e) st hq
     replace h:=hy10
     refine sq h ?_ ?_<;>intro h
     ·refine cq 5 [64,67] [.hs 2 0 [] 2 0 (x4.2.map ah).length,.agg [I x3.1,I x4.1]] 245 ?_
      refine oq 261 (.hs 245 0 [] 2 0 1) rfl (bW rfl (fh (f:=I) (xs:=[]) (z:=.agg [I (0),I (0)]) (es:=[.agg [I x3.1,I x4.1]]) (ws:=[.agg [I x3.1,I x4.1]]) rfl rfl rfl (by decide) rfl (bz rfl) rfl)) ?_
      obtain⟨a11,ha11,h⟩:=bS h
      refine oq 277 (.hs 261 0 [] 2 0 (a11.map ah).length) rfl (fW rfl rfl rfl rfl rfl (iL (path:=[]) (f:=ah) (xs:=x4.2) (ys:=[(ArrInt2.mk x3.1 x4.1)]) rfl rfl (kq rfl rfl rfl) rfl rfl rfl aG rfl (by decide) pB ha11 rfl lO)) ?_
      refine cq 2 [4] [.hs 261 0 [] 2 0 (a11.map ah).length] 293 ?_
      exact rf [1,4,5,6] [1,261] (j10 _ (ap h) :)
     ·refine aq 1 ?_
      exact rf [1,4,5,6] [1,2] (j10 _ (ap h) :)
  have r7:∀r',y7=.inl r'→∀st,sH c_1 r' st→Q st:=fun r' e st hq=>hr r' (hy71 r' e) st hq
  replace h:=hy7
  refine sp 41 h rfl ?_ ?_<;>intro h
  ·refine cq 11 [51] [B true] 531 ?_
   exact rf [1,4,5,6,7,8,51] [1,2,243,259] (j7 _ (ap h) :)
  ·refine cq 5 [46] [B (e6.Kind != 2)] 451 ?_
   obtain⟨y12,hy12,hy121,hy122⟩:=bL h
   have j12:∀u12,y12=.inr u12→Run qm 0 Q (.code Lv::.code Lu::.blk 3::.code EQ::.lp ol::.blk 2::K) (sT 71 [(1,.hp 1 0 [] 2 0 0),(4,.hs 2 0 [] 2 0 (x4.2.map ah).length),(5,I x3.1),(6,I x4.1),(7,.hp 3 0 [] 12 0 0),(8,.hp 4 0 [] 12 0 0),(51,B u12)] [⟨0,2,[ak c_1]⟩,⟨0,2,x4.2.map ah⟩,⟨0,12,[al e5]⟩,⟨0,12,[al e6]⟩] 5):=by
    intro u12 hu
    replace h:=hy122 u12 hu
    exact rf [1,4,5,6,7,8,51] [1,2,3,4] (j7 _ (ap h) :)
   have r12:∀r',y12=.inl r'→∀st,sH c_1 r' st→Q st:=fun r' e st hq=>r7 r' (hy121 r' e) st hq
   replace h:=hy12
   refine sp 46 h rfl ?_ ?_<;>intro h
   ·refine cq 6 [51] [B true] 531 ?_
    exact rf [1,4,5,6,7,8,51] [1,2,243,259] (j12 _ (ap h) :)
   ·refine cq 2 [47,48] [al e5,al e6] 483 ?_
    obtain⟨r13,hr13,h⟩:=bS h
    refine oy 499 (B r13) rfl (cP (Wn hr13)) ?_
    refine cq 3 [51] [B (!r13)] 531 ?_
    exact rf [1,4,5,6,7,8,51] [1,2,243,259] (j12 _ (ap h) :)
 ·refine aq 1 ?_
  exact rf [1,4,5] [1,2] (hn _ (ap h) :) (hk:=hK)
theorem KI (c_1:Contract):cD qm 0 (sH c_1) (cL (cL (cR (cL (cR (cR (cR Ip))))))) 0 (qb c_1) (fun u=>(sT 71 [(4,.hs 1 0 [] 2 0 (u.map ah).length)] [⟨0,2,u.map ah⟩] 2)) fun x3=>(sT 71 [(1,.hp 1 0 [] 2 0 0),(4,.hs 2 0 [] 2 0 (x3.2.map ah).length),(5,I x3.1)] [⟨0,2,[ak c_1]⟩,⟨0,2,x3.2.map ah⟩] 3):=ey (yf c_1) fun {Q K} hK self ih x3 y h hr hn=>by
 unfold kI at h
 refine cq 6 [14,16] [I x3.1,.isl false (c_1.Clauses.map ar)] 51 ?_
 refine oq 67 (I (len c_1.Clauses)) rfl (bG rfl rfl rfl (cH rfl)) ?_
 refine cq 2 [18] [B (decide (x3.1<(len c_1.Clauses)))] 83 ?_
 refine sq h ?_ ?_<;>intro h
 ·refine aq 1 ?_
  refine cq 7 [6] [I (0)] 99 ?_
  obtain⟨y14,hy14,hy141,hy142⟩:=bL h
  refine bZ rfl ?_
  refine rf [1,4,5,6] [1,2] (KJ c_1 x3 rfl (0,x3.2) _ hy14 (fun r' e st hq=>hr r' (hy141 r' e) st hq) fun u14 hu=>?_)
  replace h:=hy142 u14 hu
  refine cq 6 [5] [I (aj (x3.1+1))] 51 ?_
  refine cZ ?_
  exact rf [1,4,5] [1,2] (ih _ _ h hr hn :)
 ·refine aq 1 ?_
  exact rf [4] [2] (hn _ (ap h) :) (hk:=hK)
theorem RN (c_1:Contract)(r:(List ArrInt2)×Bool)(h:zT c_1=some r):bT qm Tryz.f7 [false] 0 (Ce c_1) (Cf r):=by
 show Run _ _ (sH c_1 r) [.code Ip] _
 refine rI 71 [(0,ak c_1)] [] 1 ?_
 unfold zT at h
 refine ck 8 [1] [] [1] [] [.hp 1 0 [] 2 0 0] [some ⟨0,2,[ak c_1]⟩] 49 (by kernel_rfl) ?_
 refine oq 65 (.hs 49 0 [] 2 0 0) rfl (bW rfl (fh (f:=I) (xs:=[]) (z:=.agg [I (0),I (0)]) (es:=[]) (ws:=[]) rfl rfl rfl (by decide) rfl (bz rfl) rfl)) ?_
 refine cq 6 [4,10] [.hs 49 0 [] 2 0 0,ak c_1] 97 ?_
 obtain⟨r2,hr2,h⟩:=bS h
 refine oq 113 (B r2) rfl (cP (WE hr2)) ?_
 refine cq 2 [12] [B (!r2)] 129 ?_
 refine sq h ?_ ?_<;>intro h
 ·refine cq 6 [2,3] [.hs 49 0 [] 2 0 0,B false] 177 ?_
  obtain rfl:=sI h
  exact bR rfl ⟨_,fin (vs:=[.hs 49 0 [] 2 0 0,B false]) rfl (ec (fe rfl (dt (k:=0) (es:=[]) rfl rfl)) (ec (bq rfl) dZ)) rfl (ed eH),eE⟩
 ·refine aq 1 ?_
  refine cq 6 [5] [I (0)] 145 ?_
  obtain⟨y15,hy15,hy151,hy152⟩:=bJ h
  refine bZ rfl ?_
  refine rf [1,4,5] [1,49] (KI c_1 rfl (0,[]) _ hy15 (fun r' e st hq=>by rw[hy151 r' e] at hq;exact hq) fun u15 hu=>?_)
  replace h:=hy152 u15 hu
  refine cq 6 [2,3] [.hs 1 0 [] 2 0 (u15.map ah).length,B true] 50 ?_
  obtain rfl:=sI h
  exact bR rfl ⟨_,fin (vs:=[.hs 1 0 [] 2 0 (u15.map ah).length,B true]) rfl (ec (fe rfl (dt rfl rfl)) (ec (bq rfl) dZ)) rfl (ed eH),eE⟩
theorem O4 {G:cO}:cM G 7 zU:=gT 1 0 (aU PE (aU O9 (aU Pb (aU O7 bX)))) cY Tryz.func7 (fun a r h=>RN a r h)
def HB:(Int×Int×Int)→List V:=cA I (cA I (oA I))
def HC (r:Bool):V×List V:=(B r,[])
noncomputable def mP :=bC [false,false,false] HB HC fun x=>nU x.1 x.2.1 x.2.2
theorem no {n_1:Int}{nH:Int}{lc:Int}{r}(h:nU n_1 nH lc=some r):mP.F (HB (n_1,nH,lc))=some (HC r):=aQ (bB cu (bB cu (aR cu))) h
noncomputable def TU :=aK Tryz.f63
noncomputable def MQ :=cX []
def TS (x:Int×Int×Int)(r:Bool):St→Prop:=QF MQ Tryz.f63 [false,false,false] (HB x) (HC r)
theorem UO (n_1:Int)(nH:Int)(lc:Int)(r:Bool)(h:nU n_1 nH lc=some r):bT MQ Tryz.f63 [false,false,false] 0 (HB (n_1,nH,lc)) (HC r):=by
 show Run _ _ (TS (n_1,nH,lc) r) [.code TU] _
 refine rI 15 [(0,I n_1),(1,I nH),(2,I lc)] [] 1 ?_
 unfold nU at h
 refine cq 10 [10] [B (decide (n_1≥nH))] 81 ?_
 obtain⟨u4,hu4,h⟩:=lJ h
 have j4:Run MQ 0 (TS (n_1,nH,lc) r) (.code (cR (cR TU))::[]) (sT 15 [(6,B u4)] [] 1):=by
  obtain rfl:=sI h
  exact rP [B u4]
 replace h:=hu4
 clear hu4
 refine sp 10 h rfl ?_ ?_<;>intro h
 ·refine cq 6 [6] [B (decide (n_1≤lc))] 161 ?_
  subst h
  exact rf [6] [] (j4 :)
 ·refine cq 6 [6] [B false] 161 ?_
  subst h
  exact rf [6] [] (j4 :)
theorem oo {G:cO}:cM G 63 mP:=gT 3 0 bX cY Tryz.func63 (fun a r h=>UO a.1 a.2.1 a.2.2 r h)
noncomputable def jX:Ent:=⟨[false,false],uc (oM str) (oM (V.int .u8)) fun s c=>some (I ((Lib.countByte s c.toNat.toUInt8:Nat):Int),[])⟩
theorem FH {s:ac}{c r:Int}(h:wM s c=some r):jX.F [str s,.int .u8 c]=some (I r,[]):=by
 cases h
 simp only[jX,uc,D5 bI,D5 Rb,Option.bind_some]
theorem FI:Extern.findNext Tryz.f156=none:=by kernel_rfl
theorem FJ:Extern.find Tryz.f156=some Extern.BytealgCount.count:=by kernel_rfl
theorem xH {G:cO}:cM G 156 jX:=LX (g:=fun s c=>((Lib.countByte s c.toNat.toUInt8:Nat):Int)) Tryz.func156 rfl (by decide) FI FJ fun s c w=>Lib.run_countString s c w
noncomputable def ij:Ent:=⟨[false,false],uc (oM str) (oM (V.int .u8)) fun s c=>some (I (Lib.indexByte s c.toNat.toUInt8),[])⟩
theorem wN {s:ac}{c r:Int}(h:qT s c=some r):ij.F [str s,.int .u8 c]=some (I r,[]):=by
 cases h
 simp only[ij,uc,D5 bI,D5 Rb,Option.bind_some]
theorem wO:Extern.findNext Tryz.f164=none:=by kernel_rfl
theorem wP:Extern.find Tryz.f164=some Extern.BytealgIndexByte.indexByte:=by kernel_rfl
theorem tC {G:cO}:cM G 164 ij:=LX (g:=fun s c=>Lib.indexByte s c.toNat.toUInt8) Tryz.func164 rfl (by decide) wO wP fun s c w=>Lib.run_indexByteString s c w
def HF:(ac×Int)→List V:=cA str (oA (V.int .u8))
def HG (r:Int):V×List V:=(I r,[])
noncomputable def Fe :=bC [false,false] HF HG fun x=>PY x.1 x.2
theorem XQ {s_1:ac}{c_2:Int}{r}(h:PY s_1 c_2=some r):Fe.F (HF (s_1,c_2))=some (HG r):=aQ (bB bI (aR (Kl (k:=.u8)))) h
noncomputable def XS :=aK Tryz.f160
noncomputable def TW :=cX [(164,ij)]
def XR (x:ac×Int)(r:Int):St→Prop:=QF TW Tryz.f160 [false,false] (HF x) (HG r)
theorem UR (s_1:ac)(c_2:Int)(r:Int)(h:PY s_1 c_2=some r):bT TW Tryz.f160 [false,false] 0 (HF (s_1,c_2)) (HG r):=by
 show Run _ _ (XR (s_1,c_2) r) [.code XS] _
 refine rI 8 [(0,str s_1),(1,.int .u8 c_2)] [] 1 ?_
 unfold PY at h
 refine cq 8 [5,6] [str s_1,.int .u8 c_2] 49 ?_
 obtain⟨r3,hr3,h⟩:=bS h
 refine oq 65 (I r3) rfl (cP (wN hr3)) ?_
 refine cq 2 [4] [I r3] 81 ?_
 obtain rfl:=sI h
 exact rP [I r3]
theorem SC {G:cO}:cM G 160 Fe:=gT 2 0 (aU tC bX) cY Tryz.func160 (fun a r h=>UR a.1 a.2 r h)
def HD:(ac×ac)→List V:=cA str (oA str)
def HE (r:Int):V×List V:=(I r,[])
noncomputable def Fd :=bC [false,false] HD HE fun x=>PX x.1 x.2
theorem XP {s_1:ac}{aP:ac}{r}(h:PX s_1 aP=some r):Fd.F (HD (s_1,aP))=some (HE r):=aQ (bB bI (aR bI)) h
noncomputable def MS :=aK Tryz.f157
noncomputable def MR :=cX [(160,Fe)]
def TV (x:ac×ac)(r:Int):St→Prop:=QF MR Tryz.f157 [false,false] (HD x) (HE r)
theorem UQ (s_1:ac)(aP:ac)(r:Int)(h:PX s_1 aP=some r):bT MR Tryz.f157 [false,false] 0 (HD (s_1,aP)) (HE r):=by
 show Run _ _ (TV (s_1,aP) r) [.code MS] _
 refine rI 143 [(0,str s_1),(1,str aP)] [] 1 ?_
 unfold PX at h
 refine cq 17 [5,19] [I (len aP),B ((len aP)==0)] 113 ?_
 obtain⟨u3,hu3,h⟩:=lJ h
 have j3:Run MR 0 (TV (s_1,aP) r) (.code (cR (cL (cL (cR (cR MS)))))::.blk 0::.code (cR (cR (cR MS)))::[]) (sT 143 [(0,str s_1),(1,str aP),(5,I (len aP)),(16,B u3)] [] 1):=by
  refine sq h ?_ ?_<;>intro h
  ·refine cq 4 [4] [I (0)] 17 ?_
   obtain rfl:=sI h
   exact rP [I (0)]
  ·refine cq 6 [24] [B ((len aP)==1)] 49 ?_
   refine sq h ?_ ?_<;>intro h
   ·refine cq 4 [27,28] [str s_1,str aP] 81 ?_
    obtain⟨c4,hc4,h⟩:=bS h
    refine oq 97 (.int .u8 (c4.toNat:Int)) rfl (mS rfl rfl (rk rfl rfl hc4)) ?_
    obtain⟨r5,hr5,h⟩:=bS h
    refine oq 113 (I r5) rfl (cP (XQ hr5)) ?_
    refine cq 2 [4] [I r5] 129 ?_
    obtain rfl:=sI h
    exact rP [I r5]
   ·refine cq 8 [31] [B (decide ((len aP)≥(len s_1)))] 129 ?_
    refine sq h ?_ ?_<;>intro h
    ·refine cq 4 [4] [I (-1)] 145 ?_
     obtain rfl:=sI h
     exact rP [I (-1)]
    ·cases h
 replace h:=hu3
 clear hu3
 refine sp 19 h rfl ?_ ?_<;>intro h
 ·refine cq 6 [16] [B true] 193 ?_
  subst h
  exact rf [0,1,5,16] [] (j3 :)
 ·refine cq 6 [16] [B (aP==s_1)] 193 ?_
  subst h
  exact rf [0,1,5,16] [] (j3 :)
theorem SB {G:cO}:cM G 157 Fd:=gT 2 0 (aU SC bX) cY Tryz.func157 (fun a r h=>UQ a.1 a.2 r h)
def Di:(ac×ac)→List V:=cA str (oA str)
def Dj (r:Int):V×List V:=(I r,[])
noncomputable def tT :=bC [false,false] Di Dj fun x=>EX x.1 x.2
theorem PO {s_1:ac}{aP:ac}{r}(h:EX s_1 aP=some r):tT.F (Di (s_1,aP))=some (Dj r):=aQ (bB bI (aR bI)) h
noncomputable def WJ :=aK Tryz.f149
noncomputable def PN :=cX [(157,Fd)]
def WI (x:ac×ac)(r:Int):St→Prop:=QF PN Tryz.f149 [false,false] (Di x) (Dj r)
theorem Sk (s_1:ac)(aP:ac)(r:Int)(h:EX s_1 aP=some r):bT PN Tryz.f149 [false,false] 0 (Di (s_1,aP)) (Dj r):=by
 show Run _ _ (WI (s_1,aP) r) [.code WJ] _
 refine rI 8 [(0,str s_1),(1,str aP)] [] 1 ?_
 unfold EX at h
 refine cq 8 [5,6] [str s_1,str aP] 49 ?_
 obtain⟨r3,hr3,h⟩:=bS h
 refine oq 65 (I r3) rfl (cP (XP hr3)) ?_
 refine cq 2 [4] [I r3] 81 ?_
 obtain rfl:=sI h
 exact rP [I r3]
theorem FS {G:cO}:cM G 149 tT:=gT 2 0 (aU SB bX) cY Tryz.func149 (fun a r h=>Sk a.1 a.2 r h)
def Dg:(ac×ac)→List V:=cA str (oA str)
def Dh (r:Int):V×List V:=(I r,[])
noncomputable def Av :=bC [false,false] Dg Dh fun x=>IL x.1 x.2
theorem WH {s_1:ac}{aP:ac}{r}(h:IL s_1 aP=some r):Av.F (Dg (s_1,aP))=some (Dh r):=aQ (bB bI (aR bI)) h
noncomputable def PL :=aK Tryz.f148
noncomputable def IM :=cX [(156,jX),(149,tT)]
def PK (x:ac×ac)(r:Int):St→Prop:=QF IM Tryz.f148 [false,false] (Dg x) (Dh r)
theorem K0 (s_1:ac)(aP:ac):cD IM 0 (PK (s_1,aP)) (cL (cL (cR (cR (cR (cR PL)))))) 0 (LH s_1 aP) (fun u=>(sT 34 [] [] 1)) fun x5=>(sT 34 [(0,str x5.1),(1,str aP),(5,I x5.2)] [] 1):=ey (KZ s_1 aP) fun {Q K} hK self ih x5 y h hr hn=>by
 unfold qY at h
 refine cq 5 [20,21] [str x5.1,str aP] 33 ?_
 obtain⟨r6,hr6,h⟩:=bS h
 refine oq 49 (I r6) rfl (cP (PO hr6)) ?_
 refine cq 8 [6,24] [I r6,B (r6==(-1))] 97 ?_
 refine sq h ?_ ?_<;>intro h
 ·refine cq 5 [4] [I x5.2] 129 ?_
  exact bR rfl (hr _ (ap h) _ (qp [I x5.2]))
 ·refine aq 1 ?_
  refine cq 12 [5,28,32] [I (aj (x5.2+1)),str x5.1,I (aj (r6+(len aP)))] 225 ?_
  obtain⟨s7,hs7,h⟩:=bS h
  refine oq 241 (str s7) rfl (io rfl rfl rfl rfl (Kc rfl rfl rfl hs7)) ?_
  refine cq 3 [0] [str s7] 257 ?_
  refine cZ ?_
  exact rf [0,1,5] [] (ih _ _ h hr hn :)
theorem Sj (s_1:ac)(aP:ac)(r:Int)(h:IL s_1 aP=some r):bT IM Tryz.f148 [false,false] 0 (Dg (s_1,aP)) (Dh r):=by
 show Run _ _ (PK (s_1,aP) r) [.code PL] _
 refine rI 34 [(0,str s_1),(1,str aP)] [] 1 ?_
 unfold IL at h
 refine cq 11 [9] [B ((len aP)==0)] 65 ?_
 refine sq h ?_ ?_<;>intro h
 ·cases h
 ·refine aq 1 ?_
  refine cq 7 [15] [B ((len aP)==1)] 113 ?_
  refine sq h ?_ ?_<;>intro h
  ·refine cq 4 [16,17] [str s_1,str aP] 145 ?_
   obtain⟨c3,hc3,h⟩:=bS h
   refine oq 161 (.int .u8 (c3.toNat:Int)) rfl (mS rfl rfl (rk rfl rfl hc3)) ?_
   obtain⟨r4,hr4,h⟩:=bS h
   refine oq 177 (I r4) rfl (cP (FH hr4)) ?_
   refine cq 2 [4] [I r4] 193 ?_
   obtain rfl:=sI h
   exact rP [I r4]
  ·refine aq 1 ?_
   refine cq 5 [5] [I (0)] 129 ?_
   obtain⟨y8,hy8,hy81,hy82⟩:=bJ h
   refine bZ rfl ?_
   refine rf [0,1,5] [] (K0 s_1 aP rfl (s_1,0) _ hy8 (fun r' e st hq=>by rw[hy81 r' e] at hq;exact hq) fun u8 hu=>?_)
   replace h:=hy82 u8 hu
   cases h
theorem PM {G:cO}:cM G 148 Av:=gT 2 0 (aU xH (aU FS bX)) cY Tryz.func148 (fun a r h=>Sj a.1 a.2 r h)
def Dm:(ac×ac×Int×Int)→List V:=cA str (cA str (cA I (oA I)))
def Dp (r:(List ac)):V×List V:=(.usl 1 (r.map str),[])
noncomputable def Az :=bC [false,false,false,false] Dm Dp fun x=>IO x.1 x.2.1 x.2.2.1 x.2.2.2
theorem WN {s_1:ac}{dN:ac}{dm:Int}{n_4:Int}{r}(h:IO s_1 dN dm n_4=some r):Az.F (Dm (s_1,dN,dm,n_4))=some (Dp r):=aQ (bB bI (bB bI (bB cu (aR cu)))) h
noncomputable def IP :=aK Tryz.f130
noncomputable abbrev Uu :=cL (cL (cL (cR (cR (cR (cR (cR (cR (cR (cR IP))))))))))
noncomputable def Dn :=cX [(149,tT),(148,Av)]
def vW (x:ac×ac×Int×Int)(r:(List ac)):St→Prop:=QF Dn Tryz.f130 [false,false,false,false] (Dm x) (Dp r)
theorem K1 (s_1:ac)(dN:ac)(dm:Int)(n_4:Int)(u5:Int):cD Dn 0 (vW (s_1,dN,dm,n_4)) Uu 0 (wX s_1 dN dm n_4 u5) (fun u=>(sT 66 [(0,str u.1),(9,.hs 1 0 [] 1 0 (u.2.2.map str).length),(10,I u.2.1)] [⟨0,1,u.2.2.map str⟩] 2)) fun x7=>(sT 66 [(0,str x7.1),(1,str dN),(2,I dm),(3,I (aj ((if (aj ((len s_1)+1))<u5 then (aj ((len s_1)+1)) else u5) - 1))),(9,.hs 1 0 [] 1 0 (x7.2.2.map str).length),(10,I x7.2.1)] [⟨0,1,x7.2.2.map str⟩] 2):=ey (yB s_1 dN dm n_4 u5) fun {Q K} hK self ih x7 y h hr hn=>by
 unfold qZ at h
 refine cq 7 [36] [B (decide (x7.2.1<(aj ((if (aj ((len s_1)+1))<u5 then (aj ((len s_1)+1)) else u5) - 1))))] 50 ?_
 refine sq h ?_ ?_<;>intro h
 ·refine aq 1 ?_
  refine cq 5 [37,38] [str x7.1,str dN] 82 ?_
  obtain⟨r8,hr8,h⟩:=bS h
  refine oq 98 (I r8) rfl (cP (PO hr8)) ?_
  refine cq 8 [11,41] [I r8,B (decide (r8<0))] 146 ?_
  refine sq h ?_ ?_<;>intro h
  ·refine aq 1 ?_
   exact rf [0,9,10] [1] (hn _ (ap h) :) (hk:=hK)
  ·refine aq 1 ?_
   refine cq 8 [42,43,44,47] [.hs 1 0 [] 1 0 (x7.2.2.map str).length,I x7.2.1,str x7.1,I (aj (r8+dm))] 242 ?_
   obtain⟨s9,hs9,h⟩:=bS h
   refine oq 258 (str s9) rfl (io rfl rfl rfl rfl (Kc rfl rfl rfl hs9)) ?_
   obtain⟨e10,he10,h⟩:=bS h
   refine oq 274 (.hp 1 0 [] 1 (0+Int.toNat x7.2.1) 0) rfl (ao rfl rfl rfl (dJ (f:=str) (xs:=x7.2.2) rfl rfl rfl he10)) ?_
   refine o0 290 rfl rfl (fw rfl rfl (eq (path:=[]) (pl:=true) (e':=str s9) (es2':=(cS x7.2.2 x7.2.1 s9).map str) rfl (bq rfl) rfl rfl rfl aG (cT (f:=str) (xs:=x7.2.2) he10) rfl rfl rfl (jz (f:=str) (xs:=x7.2.2) (y:=s9)) d7 0 rfl)) ?_
   try rw[←gZ (f:=str) (xs:=x7.2.2) (i:=x7.2.1) (z:=s9)]
   refine cq 8 [50,54] [str x7.1,I (aj (r8+(len dN)))] 370 ?_
   obtain⟨s11,hs11,h⟩:=bS h
   refine oq 386 (str s11) rfl (io rfl rfl rfl rfl (Kc rfl rfl rfl hs11)) ?_
   refine cq 8 [0,10] [str s11,I (aj (x7.2.1+1))] 450 ?_
   refine cZ ?_
   exact rf [0,1,2,3,9,10] [1] (ih _ _ h hr hn :)
 ·refine aq 1 ?_
  exact rf [0,9,10] [1] (hn _ (ap h) :) (hk:=hK)
theorem Sm (s_1:ac)(dN:ac)(dm:Int)(n_4:Int)(r:(List ac))(h:IO s_1 dN dm n_4=some r):bT Dn Tryz.f130 [false,false,false,false] 0 (Dm (s_1,dN,dm,n_4)) (Dp r):=by
 show Run _ _ (vW (s_1,dN,dm,n_4) r) [.code IP] _
 refine rI 66 [(0,str s_1),(1,str dN),(2,I dm),(3,I n_4)] [] 1 ?_
 unfold IO at h
 refine cq 10 [13] [B (n_4==0)] 49 ?_
 refine sq h ?_ ?_<;>intro h
 ·refine cq 4 [8] [.isl true []] 65 ?_
  refine Fz 8 0 1 81 (.hs 65 0 [] 1 0 0) rfl rfl rfl rfl rfl ?_
  obtain rfl:=sI h
  exact bR rfl ⟨_,fin (vs:=[.hs 65 0 [] 1 0 0]) rfl (ec (fe rfl (dt (k:=0) (es:=[]) rfl rfl)) dZ) rfl (ed (ed (ed (ed eH)))),eE⟩
 ·refine aq 1 ?_
  refine cq 6 [15] [B (dN==([]:ac))] 81 ?_
  refine sq h ?_ ?_<;>intro h
  ·cases h
  ·refine aq 1 ?_
   refine cq 6 [20] [B (decide (n_4<0))] 113 ?_
   obtain⟨y5,hy5,hy51,hy52⟩:=bJ h
   have j5:∀u5,y5=.inr u5→Run Dn 0 (vW (s_1,dN,dm,n_4) r) (.code (cR (cR (cR (cR IP))))::[]) (sT 66 [(0,str s_1),(1,str dN),(2,I dm),(3,I u5)] [] 1):=by
    intro u5 hu
    replace h:=hy52 u5 hu
    refine cq 12 [3,30] [I (if (aj ((len s_1)+1))<u5 then (aj ((len s_1)+1)) else u5),I (if (aj ((len s_1)+1))<u5 then (aj ((len s_1)+1)) else u5)] 113 ?_
    obtain⟨m6,hm6,h⟩:=bS h
    refine oq 129 (.hs 113 0 [] 1 0 (m6.map str).length) rfl (oO rfl rfl (QG (f:=str) rfl rfl rfl (by decide) hm6 rfl)) ?_
    refine cq 14 [3,9,10] [I (aj ((if (aj ((len s_1)+1))<u5 then (aj ((len s_1)+1)) else u5) - 1)),.hs 113 0 [] 1 0 (m6.map str).length,I (0)] 209 ?_
    obtain⟨y12,hy12,hy121,hy122⟩:=bJ h
    refine bZ rfl ?_
    refine rf [0,1,2,3,9,10] [113] (K1 s_1 dN dm n_4 u5 rfl (s_1,0,m6) _ hy12 (fun r' e st hq=>by rw[hy121 r' e] at hq;exact hq) fun u12 hu=>?_)
    replace h:=hy122 u12 hu
    refine cq 5 [58,59,60] [.hs 1 0 [] 1 0 (u12.2.2.map str).length,I u12.2.1,str u12.1] 50 ?_
    obtain⟨e13,he13,h⟩:=bS h
    refine oq 66 (.hp 1 0 [] 1 (0+Int.toNat u12.2.1) 0) rfl (ao rfl rfl rfl (dJ (f:=str) (xs:=u12.2.2) rfl rfl rfl he13)) ?_
    refine o0 82 rfl rfl (fw rfl rfl (eq (path:=[]) (pl:=true) (e':=str u12.1) (es2':=(cS u12.2.2 u12.2.1 u12.1).map str) rfl (bq rfl) rfl rfl rfl aG (cT (f:=str) (xs:=u12.2.2) he13) rfl rfl rfl (jz (f:=str) (xs:=u12.2.2) (y:=u12.1)) d7 0 rfl)) ?_
    try rw[←gZ (f:=str) (xs:=u12.2.2) (i:=u12.2.1) (z:=u12.1)]
    refine cq 6 [62,64] [.hs 1 0 [] 1 0 ((cS u12.2.2 u12.2.1 u12.1).map str).length,I (aj (u12.2.1+1))] 130 ?_
    obtain⟨s14,hs14,h⟩:=bS h
    refine oq 146 (.hs 1 0 [] 1 (0+Int.toNat (0)) (Int.toNat (aj (u12.2.1+1)) - Int.toNat (0))) rfl (io rfl rfl rfl rfl (pn (f:=str) (xs:=(cS u12.2.2 u12.2.1 u12.1)) rfl rfl rfl rfl rfl hs14)) ?_
    refine cq 2 [8] [.hs 1 0 [] 1 (0+Int.toNat (0)) (Int.toNat (aj (u12.2.1+1)) - Int.toNat (0))] 162 ?_
    obtain⟨p15,hp15,h⟩:=bS h
    obtain rfl:=sI h
    exact bR rfl ⟨_,fin (vs:=[.hs 1 0 [] 1 (0+Int.toNat (0)) (Int.toNat (aj (u12.2.1+1)) - Int.toNat (0))]) rfl (ec (fe rfl (P3 (path:=[]) (f:=str) (xs:=(cS u12.2.2 u12.2.1 u12.1)) rfl rfl aG hp15 rfl lO)) dZ) rfl (ed (ed (ed (ed eH)))),eE⟩
   have r5:∀r',y5=.inl r'→∀st,vW (s_1,dN,dm,n_4) r' st→(vW (s_1,dN,dm,n_4) r) st:=fun r' e st hq=>by rw[hy51 r' e] at hq;exact hq
   replace h:=hy5
   refine sq h ?_ ?_<;>intro h
   ·refine cq 3 [21,22] [str s_1,str dN] 145 ?_
    obtain⟨r16,hr16,h⟩:=bS h
    refine oq 161 (I r16) rfl (cP (WH hr16)) ?_
    refine cq 3 [3] [I (aj (r16+1))] 193 ?_
    exact rf [0,1,2,3] [] (j5 _ (ap h) :)
   ·refine aq 1 ?_
    exact rf [0,1,2,3] [] (j5 _ (ap h) :)
theorem PR {G:cO}:cM G 130 Az:=gT 4 0 (aU FS (aU PM bX)) cY Tryz.func130 (fun a r h=>Sm a.1 a.2.1 a.2.2.1 a.2.2.2 r h)
def Dk:(ac×ac)→List V:=cA str (oA str)
def Dl (r:(List ac)):V×List V:=(.usl 1 (r.map str),[])
noncomputable def Ay :=bC [false,false] Dk Dl fun x=>Aw x.1 x.2
theorem WK {s_1:ac}{dN:ac}{r}(h:Aw s_1 dN=some r):Ay.F (Dk (s_1,dN))=some (Dl r):=aQ (bB bI (aR bI)) h
noncomputable def WM :=aK Tryz.f110
noncomputable def PP :=cX [(130,Az)]
def WL (x:ac×ac)(r:(List ac)):St→Prop:=QF PP Tryz.f110 [false,false] (Dk x) (Dl r)
theorem Sl (s_1:ac)(dN:ac)(r:(List ac))(h:Aw s_1 dN=some r):bT PP Tryz.f110 [false,false] 0 (Dk (s_1,dN)) (Dl r):=by
 show Run _ _ (WL (s_1,dN) r) [.code WM] _
 refine rI 8 [(0,str s_1),(1,str dN)] [] 1 ?_
 unfold Aw at h
 refine cq 8 [5,6] [str s_1,str dN] 49 ?_
 obtain⟨r3,hr3,h⟩:=bS h
 refine oq 65 (.hs 49 0 [] 1 0 (r3.map str).length) rfl (cP (WN hr3)) ?_
 refine cq 2 [4] [.hs 49 0 [] 1 0 (r3.map str).length] 81 ?_
 obtain rfl:=sI h
 exact bR rfl ⟨_,fin (vs:=[.hs 49 0 [] 1 0 (r3.map str).length]) rfl (ec (fe rfl (dt rfl rfl)) dZ) rfl (ed (ed eH)),eE⟩
theorem PQ {G:cO}:cM G 110 Ay:=gT 2 0 (aU PR bX) cY Tryz.func110 (fun a r h=>Sl a.1 a.2 r h)
def Cc:((List ac)×ac)→List V:=cA (ln str) (oA str)
def Cd (r:Int):V×List V:=(I r,[])
noncomputable def zS :=bC [false,false] Cc Cd fun x=>vo x.1 x.2
theorem Wl {s_1:List ac}{v_2:ac}{r}(h:vo s_1 v_2=some r):zS.F (Cc (s_1,v_2))=some (Cd r):=aQ (bB (d9 bI) (aR bI)) h
noncomputable def O2 :=aK Tryz.f111
noncomputable def Io :=cX []
def O1 (x:(List ac)×ac)(r:Int):St→Prop:=QF Io Tryz.f111 [false,false] (Cc x) (Cd r)
theorem KH (s_1:List ac)(v_2:ac):cD Io 0 (O1 (s_1,v_2)) (cL (cL (cR (cL (cR O2))))) 0 (oh s_1 v_2) (fun u=>(sT 19 [] [] 1)) fun x3=>(sT 19 [(0,.isl false (s_1.map str)),(1,str v_2),(7,I (len s_1)),(8,I x3)] [] 1):=ey (ye s_1 v_2) fun {Q K} hK self ih x3 y h hr hn=>by
 unfold jG at h
 refine cq 5 [9] [B (decide (x3<(len s_1)))] 17 ?_
 refine sq h ?_ ?_<;>intro h
 ·refine aq 1 ?_
  refine cq 12 [5,11,12,13] [I x3,str v_2,.isl false (s_1.map str),I x3] 97 ?_
  obtain⟨e4,he4,h⟩:=bS h
  refine oq 113 (.iptr (str e4) 0) rfl (ao rfl rfl rfl (bH rfl rfl rfl rfl he4)) ?_
  refine cq 3 [16] [B (v_2==e4)] 145 ?_
  refine sq h ?_ ?_<;>intro h
  ·refine cq 5 [4] [I x3] 177 ?_
   exact bR rfl (hr _ (ap h) _ (qp [I x3]))
  ·refine aq 1 ?_
   refine cq 5 [8] [I (aj (x3+1))] 177 ?_
   refine cZ ?_
   exact rf [0,1,7,8] [] (ih _ _ h hr hn :)
 ·refine aq 1 ?_
  exact rf [] [] (hn _ (ap h) :) (hk:=hK)
theorem RM (s_1:List ac)(v_2:ac)(r:Int)(h:vo s_1 v_2=some r):bT Io Tryz.f111 [false,false] 0 (Cc (s_1,v_2)) (Cd r):=by
 show Run _ _ (O1 (s_1,v_2) r) [.code O2] _
 refine rI 19 [(0,.isl false (s_1.map str)),(1,str v_2)] [] 1 ?_
 unfold vo at h
 refine cq 8 [6] [.isl false (s_1.map str)] 33 ?_
 refine oq 49 (I (len s_1)) rfl (bG rfl rfl rfl (cH rfl)) ?_
 refine cq 3 [8] [I (0)] 65 ?_
 obtain⟨y5,hy5,hy51,hy52⟩:=bJ h
 refine bZ rfl ?_
 refine rf [0,1,7,8] [] (KH s_1 v_2 rfl 0 _ hy5 (fun r' e st hq=>by rw[hy51 r' e] at hq;exact hq) fun u5 hu=>?_)
 replace h:=hy52 u5 hu
 refine cq 4 [4] [I (-1)] 17 ?_
 obtain rfl:=sI h
 exact rP [I (-1)]
theorem O3 {G:cO}:cM G 111 zS:=gT 2 0 bX cY Tryz.func111 (fun a r h=>RM a.1 a.2 r h)
def B8:((List ac)×ac)→List V:=cA (ln str) (oA str)
def B9 (r:Bool):V×List V:=(B r,[])
noncomputable def ql :=bC [false,false] B8 B9 fun x=>oe x.1 x.2
theorem Il {s_1:List ac}{v_2:ac}{r}(h:oe s_1 v_2=some r):ql.F (B8 (s_1,v_2))=some (B9 r):=aQ (bB (d9 bI) (aR bI)) h
noncomputable def Wi :=aK Tryz.f93
noncomputable def OX :=cX [(111,zS)]
def Wh (x:(List ac)×ac)(r:Bool):St→Prop:=QF OX Tryz.f93 [false,false] (B8 x) (B9 r)
theorem RK (s_1:List ac)(v_2:ac)(r:Bool)(h:oe s_1 v_2=some r):bT OX Tryz.f93 [false,false] 0 (B8 (s_1,v_2)) (B9 r):=by
 show Run _ _ (Wh (s_1,v_2) r) [.code Wi] _
 refine rI 9 [(0,.isl false (s_1.map str)),(1,str v_2)] [] 1 ?_
 unfold oe at h
 refine cq 8 [5,6] [.isl false (s_1.map str),str v_2] 49 ?_
 obtain⟨r3,hr3,h⟩:=bS h
 refine oq 65 (I r3) rfl (cP (Wl hr3)) ?_
 refine cq 3 [4] [B (decide (r3≥0))] 97 ?_
 obtain rfl:=sI h
 exact rP [B (decide (r3≥0))]
theorem vn {G:cO}:cM G 93 ql:=gT 2 0 (aU O3 bX) cY Tryz.func93 (fun a r h=>RK a.1 a.2 r h)
def G3:ac→List V:=oA str
def G5 (r:Bool):V×List V:=(B r,[])
noncomputable def sZ :=bC [false] G3 G5 fun x=>vS x
theorem G4 {s_1:ac}{r}(h:vS s_1=some r):sZ.F (G3 s_1)=some (G5 r):=aQ (aR bI) h
noncomputable def wW :=aK Tryz.f92
noncomputable abbrev qv :=cL (cL (cR (cL (cR (cR wW)))))
noncomputable abbrev C6 :=cR (cR (cR qv))
noncomputable abbrev C7 :=cR (cR (cR (cL (cL (cR (cR qv))))))
noncomputable def pK :=cX [(63,mP),(110,Ay),(93,ql)]
def qX (x:ac)(r:Bool):St→Prop:=QF pK Tryz.f92 [false] (G3 x) (G5 r)
theorem My (s_1:ac):cD pK 0 (qX s_1) qv 0 (vT s_1) (fun u=>(sT 46 [(0,str s_1)] [] 1)) fun x4=>(sT 46 [(0,str s_1),(20,I (len s_1)),(21,I x4)] [] 1):=ey (C8 s_1) fun {Q K} hK self ih x4 y h hr hn=>by
 unfold om at h
 refine cq 5 [22] [B (decide (x4<(len s_1)))] 17 ?_
 refine sq h ?_ ?_<;>intro h
 ·refine aq 1 ?_
  refine cq 11 [24,25] [str s_1,I x4] 81 ?_
  obtain⟨c5,hc5,h⟩:=bS h
  refine oq 97 (.int .u8 (c5.toNat:Int)) rfl (mS rfl rfl (rk rfl rfl hc5)) ?_
  refine cq 7 [4,29] [.int .u8 (c5.toNat:Int),B (decide ((c5.toNat:Int)<97))] 161 ?_
  obtain⟨u6,hu6,h⟩:=lJ h
  have j6:Run pK 0 Q (.code C7::.blk 1::.code C6::.lp qv::.blk 0::K) (sT 46 [(0,str s_1),(20,I (len s_1)),(21,I x4),(40,B u6)] [] 1):=by
   refine sq h ?_ ?_<;>intro h
   ·refine cq 4 [2] [B false] 17 ?_
    exact bR rfl (hr _ (ap h) _ (qp [B false]))
   ·refine aq 1 ?_
    refine cq 5 [21] [I (aj (x4+1))] 33 ?_
    refine cZ ?_
    exact rf [0,20,21] [] (ih _ _ h hr hn :)
  replace h:=hu6
  clear hu6
  refine sp 29 h rfl ?_ ?_<;>intro h
  ·refine cq 7 [33,36] [B true,B (decide ((c5.toNat:Int)<48))] 273 ?_
   obtain⟨u7,hu7,h⟩:=lJ h
   have j7:Run pK 0 Q (.code C7::.blk 1::.code C6::.lp qv::.blk 0::K) (sT 46 [(0,str s_1),(20,I (len s_1)),(21,I x4),(40,B u7)] [] 1):=by
    subst h
    exact rf [0,20,21,40] [] (j6 :)
   replace h:=hu7
   clear hu7
   refine sp 36 h rfl ?_ ?_<;>intro h
   ·refine cq 5 [40] [B true] 337 ?_
    subst h
    exact rf [0,20,21,40] [] (j7 :)
   ·refine cq 5 [40] [B (decide ((c5.toNat:Int)>57))] 337 ?_
    subst h
    exact rf [0,20,21,40] [] (j7 :)
  ·refine cq 4 [33] [B (decide ((c5.toNat:Int)>122))] 225 ?_
   obtain⟨u8,hu8,h⟩:=lJ h
   have j8:Run pK 0 Q (.code C7::.blk 1::.code C6::.lp qv::.blk 0::K) (sT 46 [(0,str s_1),(20,I (len s_1)),(21,I x4),(40,B u8)] [] 1):=by
    subst h
    exact rf [0,20,21,40] [] (j6 :)
   replace h:=hu8
   clear hu8
   refine sp 33 h rfl ?_ ?_<;>intro h
   ·refine cq 3 [36] [B (decide ((c5.toNat:Int)<48))] 273 ?_
    obtain⟨u9,hu9,h⟩:=lJ h
    have j9:Run pK 0 Q (.code C7::.blk 1::.code C6::.lp qv::.blk 0::K) (sT 46 [(0,str s_1),(20,I (len s_1)),(21,I x4),(40,B u9)] [] 1):=by
     subst h
     exact rf [0,20,21,40] [] (j8 :)
    replace h:=hu9
    clear hu9
    refine sp 36 h rfl ?_ ?_<;>intro h
    ·refine cq 5 [40] [B true] 337 ?_
     subst h
     exact rf [0,20,21,40] [] (j9 :)
    ·refine cq 5 [40] [B (decide ((c5.toNat:Int)>57))] 337 ?_
     subst h
     exact rf [0,20,21,40] [] (j9 :)
   ·refine cq 8 [40] [B false] 337 ?_
    subst h
    exact rf [0,20,21,40] [] (j8 :)
 ·refine aq 1 ?_
  exact rf [0] [] (hn _ (ap h) :) (hk:=hK)
theorem Ut (s_1:ac)(r:Bool)(h:vS s_1=some r):bT pK Tryz.f92 [false] 0 (G3 s_1) (G5 r):=by
 show Run _ _ (qX s_1 r) [.code wW] _
 refine rI 46 [(0,str s_1)] [] 1 ?_
 unfold vS at h
 refine cq 9 [6] [I (len s_1)] 49 ?_
 obtain⟨r2,hr2,h⟩:=bS h
 refine oq 65 (B r2) rfl (cP (no hr2)) ?_
 refine cq 2 [9] [B (!r2)] 97 ?_
 obtain⟨y3,hy3,hy31,hy32⟩:=bJ h
 have j3:∀u3,y3=.inr u3→Run pK 0 (qX s_1 r) (.code (cR (cL (cR wW)))::.code (cR (cR wW))::[]) (sT 46 [(0,str s_1),(18,B u3)] [] 1):=by
  intro u3 hu
  replace h:=hy32 u3 hu
  refine sq h ?_ ?_<;>intro h
  ·refine cq 4 [2] [B false] 17 ?_
   obtain rfl:=sI h
   exact rP [B false]
  ·refine aq 1 ?_
   refine cq 8 [20,21] [I (len s_1),I (0)] 49 ?_
   obtain⟨y10,hy10,hy101,hy102⟩:=bJ h
   refine bZ rfl ?_
   refine rf [0,20,21] [] (My s_1 rfl 0 _ hy10 (fun r' e st hq=>by rw[hy101 r' e] at hq;exact hq) fun u10 hu=>?_)
   replace h:=hy102 u10 hu
   refine aq 2 ?_
   obtain⟨r11,hr11,h⟩:=bS h
   refine oq 17 (.hs 1 0 [] 1 0 (r11.map str).length) rfl (cP (WK hr11)) ?_
   refine cq 1 [43] [str s_1] 33 ?_
   obtain⟨r12,hr12,h⟩:=bS h
   refine oq 49 (B r12) rfl (aW rfl rfl (bv rfl rfl rfl (bm (pD rfl rfl (eT (f:=str) (g:=str) (xs:=r11) rfl rfl (dE gC))) (bm (bK rfl) cy)) (Il hr12) (.inl rfl) cI rfl rfl rfl)) ?_
   refine cq 3 [2] [B (!r12)] 81 ?_
   obtain rfl:=sI h
   exact rP [B (!r12)]
 have r3:∀r',y3=.inl r'→∀st,qX s_1 r' st→(qX s_1 r) st:=fun r' e st hq=>by rw[hy31 r' e] at hq;exact hq
 replace h:=hy3
 refine sp 9 h rfl ?_ ?_<;>intro h
 ·refine cq 10 [18] [B true] 241 ?_
  exact rf [0,18] [] (j3 _ (ap h) :)
 ·refine cq 1 [10] [str s_1] 113 ?_
  obtain⟨c13,hc13,h⟩:=bS h
  refine oy 129 (.int .u8 (c13.toNat:Int)) rfl (mS rfl rfl (rk rfl rfl hc13)) ?_
  refine cq 3 [14] [B (decide ((c13.toNat:Int)<97))] 177 ?_
  obtain⟨y14,hy14,hy141,hy142⟩:=bL h
  have j14:∀u14,y14=.inr u14→Run pK 0 (qX s_1 r) (.code (cR (cL (cR wW)))::.code (cR (cR wW))::[]) (sT 46 [(0,str s_1),(18,B u14)] [] 1):=by
   intro u14 hu
   replace h:=hy142 u14 hu
   exact rf [0,18] [] (j3 _ (ap h) :)
  have r14:∀r',y14=.inl r'→∀st,qX s_1 r' st→(qX s_1 r) st:=fun r' e st hq=>r3 r' (hy141 r' e) st hq
  replace h:=hy14
  refine sp 14 h rfl ?_ ?_<;>intro h
  ·refine cq 5 [18] [B true] 241 ?_
   exact rf [0,18] [] (j14 _ (ap h) :)
  ·refine cq 1 [15] [str s_1] 193 ?_
   obtain⟨c15,hc15,h⟩:=bS h
   refine oy 209 (.int .u8 (c15.toNat:Int)) rfl (mS rfl rfl (rk rfl rfl hc15)) ?_
   refine cq 3 [18] [B (decide ((c15.toNat:Int)>122))] 241 ?_
   exact rf [0,18] [] (j14 _ (ap h) :)
theorem Aq {G:cO}:cM G 92 sZ:=gT 1 0 (aU oo (aU PQ (aU vn bX))) cY Tryz.func92 (fun a r h=>Ut a r h)
def G9:(List ac)→List V:=oA (ln str)
def Hb (r:Bool):V×List V:=(B r,[])
noncomputable def EZ :=bC [false] G9 Hb fun x=>IT x
theorem Xx {bo:List ac}{r}(h:IT bo=some r):EZ.F (G9 bo)=some (Hb r):=aQ (aR (d9 bI)) h
noncomputable def Dy :=aK Tryz.f62
noncomputable def Ha :=cX [(92,sZ),(93,ql),(63,mP)]
def MD (x:(List ac))(r:Bool):St→Prop:=QF Ha Tryz.f62 [false] (G9 x) (Hb r)
theorem ME (bo:List ac):cD Ha 0 (MD bo) (cL (cL (cR (cL (cR Dy))))) 0 (vX bo) (fun u=>(sT 26 [(0,.isl false (bo.map str))] [] 1)) fun x2=>(sT 26 [(0,.isl false (bo.map str)),(5,.isl false (bo.map str)),(6,I (len bo)),(7,I x2)] [] 1):=ey (Dz bo) fun {Q K} hK self ih x2 y h hr hn=>by
 unfold md at h
 refine cq 5 [8] [B (decide (x2<(len bo)))] 17 ?_
 refine sq h ?_ ?_<;>intro h
 ·refine aq 1 ?_
  refine cq 5 [9] [I x2] 33 ?_
  obtain⟨e3,he3,h⟩:=bS h
  refine oq 49 (.iptr (str e3) 0) rfl (ao rfl rfl rfl (bH rfl rfl rfl rfl he3)) ?_
  refine cq 7 [3,4,12] [I x2,str e3,str e3] 113 ?_
  obtain⟨r4,hr4,h⟩:=bS h
  refine oq 129 (B r4) rfl (cP (G4 hr4)) ?_
  refine cq 2 [15] [B (!r4)] 161 ?_
  obtain⟨y5,hy5,hy51,hy52⟩:=bL h
  have j5:∀u5,y5=.inr u5→Run Ha 0 Q (.code (cR (cR (cL (cL (cR (cR (cL (cL (cR (cL (cR Dy)))))))))))::.blk 1::.code (cR (cR (cR (cL (cL (cR (cL (cR Dy))))))))::.lp (cL (cL (cR (cL (cR Dy)))))::.blk 0::K) (sT 26 [(0,.isl false (bo.map str)),(5,.isl false (bo.map str)),(6,I (len bo)),(7,I x2),(21,B u5)] [] 1):=by
   intro u5 hu
   replace h:=hy52 u5 hu
   refine sq h ?_ ?_<;>intro h
   ·refine cq 4 [2] [B false] 17 ?_
    exact bR rfl (hr _ (ap h) _ (qp [B false]))
   ·refine aq 1 ?_
    refine cq 5 [7] [I (aj (x2+1))] 33 ?_
    refine cZ ?_
    exact rf [0,5,6,7] [] (ih _ _ h hr hn :)
  have r5:∀r',y5=.inl r'→∀st,MD bo r' st→Q st:=fun r' e st hq=>hr r' (hy51 r' e) st hq
  replace h:=hy5
  refine sp 15 h rfl ?_ ?_<;>intro h
  ·refine cq 7 [21] [B true] 257 ?_
   exact rf [0,5,6,7,21] [] (j5 _ (ap h) :)
  ·refine cq 2 [16,17] [.isl false (bo.map str),I x2] 193 ?_
   obtain⟨s6,hs6,h⟩:=bS h
   refine oy 209 (.isl false (s6.map str)) rfl (io rfl rfl rfl rfl (QW rfl rfl (fun y=>(iX y).1) rfl rfl hs6)) ?_
   refine cq 1 [19] [str e3] 225 ?_
   obtain⟨r7,hr7,h⟩:=bS h
   refine oy 241 (B r7) rfl (cP (Il hr7)) ?_
   refine cq 2 [21] [B r7] 257 ?_
   exact rf [0,5,6,7,21] [] (j5 _ (ap h) :)
 ·refine aq 1 ?_
  exact rf [0] [] (hn _ (ap h) :) (hk:=hK)
theorem Uz (bo:List ac)(r:Bool)(h:IT bo=some r):bT Ha Tryz.f62 [false] 0 (G9 bo) (Hb r):=by
 show Run _ _ (MD bo r) [.code Dy] _
 refine rI 26 [(0,.isl false (bo.map str))] [] 1 ?_
 unfold IT at h
 refine cq 8 [5] [.isl false (bo.map str)] 33 ?_
 refine oq 49 (I (len bo)) rfl (bG rfl rfl rfl (cH rfl)) ?_
 refine cq 3 [7] [I (0)] 65 ?_
 obtain⟨y8,hy8,hy81,hy82⟩:=bJ h
 refine bZ rfl ?_
 refine rf [0,5,6,7] [] (ME bo rfl 0 _ hy8 (fun r' e st hq=>by rw[hy81 r' e] at hq;exact hq) fun u8 hu=>?_)
 replace h:=hy82 u8 hu
 refine cq 3 [23] [.isl false (bo.map str)] 17 ?_
 refine oq 33 (I (len bo)) rfl (bG rfl rfl rfl (cH rfl)) ?_
 obtain⟨r9,hr9,h⟩:=bS h
 refine oq 49 (B r9) rfl (cP (no hr9)) ?_
 refine cq 2 [2] [B r9] 65 ?_
 obtain rfl:=sI h
 exact rP [B r9]
theorem So {G:cO}:cM G 62 EZ:=gT 1 0 (aU Aq (aU vn (aU oo bX))) cY Tryz.func62 (fun a r h=>Uz a r h)
def He:(Clause×ac)→List V:=cA ar (oA (fun x:ac=>.iptr (str x) 0))
def Hf (r:Bool):V×List V:=(B r,[])
noncomputable def E3 :=bC [false,false] He Hf fun x=>PU x.1 x.2
theorem XA {x_1:Clause}{a_2:ac}{r}(h:PU x_1 a_2=some r):E3.F (He (x_1,a_2))=some (Hf r):=aQ (bB cV (aR (un bI))) h
noncomputable def XC :=aK Tryz.f113
noncomputable def TH :=cX []
def XB (x:Clause×ac)(r:Bool):St→Prop:=QF TH Tryz.f113 [false,false] (He x) (Hf r)
theorem UB (x_1:Clause)(a_2:ac)(r:Bool)(h:PU x_1 a_2=some r):bT TH Tryz.f113 [false,false] 0 (He (x_1,a_2)) (Hf r):=by
 show Run _ _ (XB (x_1,a_2) r) [.code XC] _
 refine rI 8 [(0,al x_1),(1,.iptr (str a_2) 0)] [] 1 ?_
 unfold PU at h
 refine cq 13 [3] [B (x_1.Id==a_2)] 113 ?_
 obtain rfl:=sI h
 exact rP [B (x_1.Id==a_2)]
theorem Sq {G:cO}:cM G 113 E3:=gT 2 0 bX cY Tryz.func113 (fun a r h=>UB a.1 a.2 r h)
def Ca:((List Clause)×ac)→List V:=cA (ln ar) (oA (fun x:ac=>(.fn 113 [.iptr (str x) 0]:V)))
def Cb (r:Int):V×List V:=(I r,[])
noncomputable def zR :=bC [false,false] Ca Cb fun x=>EP x.1 x.2
theorem Wj {s_1:List Clause}{f_2:ac}{r}(h:EP s_1 f_2=some r):zR.F (Ca (s_1,f_2))=some (Cb r):=aQ (bB (d9 cV) (aR (Vf bI))) h
noncomputable def OZ :=aK Tryz.f112
noncomputable def Im :=cX [(113,E3)]
def OY (x:(List Clause)×ac)(r:Int):St→Prop:=QF Im Tryz.f112 [false,false] (Ca x) (Cb r)
theorem KG (s_1:List Clause)(f_2:ac):cD Im 0 (OY (s_1,f_2)) (cL (cL (cR (cL (cR OZ))))) 0 (sG s_1 f_2) (fun u=>(sT 19 [] [] 1)) fun x3=>(sT 19 [(0,.isl false (s_1.map ar)),(1,.fn 113 [.iptr (str f_2) 0]),(7,I (len s_1)),(8,I x3)] [] 1):=ey (yd s_1 f_2) fun {Q K} hK self ih x3 y h hr hn=>by
 unfold mG at h
 refine cq 5 [9] [B (decide (x3<(len s_1)))] 17 ?_
 refine sq h ?_ ?_<;>intro h
 ·refine aq 1 ?_
  refine cq 12 [5,11,12,13] [I x3,.fn 113 [.iptr (str f_2) 0],.isl false (s_1.map ar),I x3] 97 ?_
  obtain⟨e4,he4,h⟩:=bS h
  refine oq 113 (.iptr (al e4) 0) rfl (ao rfl rfl rfl (bH rfl rfl rfl rfl he4)) ?_
  refine cq 1 [15] [al e4] 129 ?_
  obtain⟨r5,hr5,h⟩:=bS h
  refine oq 145 (B r5) rfl (cP (XA hr5)) ?_
  refine aq 1 ?_
  refine sq h ?_ ?_<;>intro h
  ·refine cq 5 [4] [I x3] 177 ?_
   exact bR rfl (hr _ (ap h) _ (qp [I x3]))
  ·refine aq 1 ?_
   refine cq 5 [8] [I (aj (x3+1))] 177 ?_
   refine cZ ?_
   exact rf [0,1,7,8] [] (ih _ _ h hr hn :)
 ·refine aq 1 ?_
  exact rf [] [] (hn _ (ap h) :) (hk:=hK)
theorem RL (s_1:List Clause)(f_2:ac)(r:Int)(h:EP s_1 f_2=some r):bT Im Tryz.f112 [false,false] 0 (Ca (s_1,f_2)) (Cb r):=by
 show Run _ _ (OY (s_1,f_2) r) [.code OZ] _
 refine rI 19 [(0,.isl false (s_1.map ar)),(1,.fn 113 [.iptr (str f_2) 0])] [] 1 ?_
 unfold EP at h
 refine cq 8 [6] [.isl false (s_1.map ar)] 33 ?_
 refine oq 49 (I (len s_1)) rfl (bG rfl rfl rfl (cH rfl)) ?_
 refine cq 3 [8] [I (0)] 65 ?_
 obtain⟨y6,hy6,hy61,hy62⟩:=bJ h
 refine bZ rfl ?_
 refine rf [0,1,7,8] [] (KG s_1 f_2 rfl 0 _ hy6 (fun r' e st hq=>by rw[hy61 r' e] at hq;exact hq) fun u6 hu=>?_)
 replace h:=hy62 u6 hu
 refine cq 4 [4] [I (-1)] 17 ?_
 obtain rfl:=sI h
 exact rP [I (-1)]
theorem O0 {G:cO}:cM G 112 zR:=gT 2 0 (aU Sq bX) cY Tryz.func112 (fun a r h=>RL a.1 a.2 r h)
def Hc:(Contract×ac)→List V:=cA aO (oA str)
def Hd (r:Int):V×List V:=(I r,[])
noncomputable def E2 :=bC [false,false] Hc Hd fun x=>DA x.1 x.2
theorem TG {c_1:Contract}{eK:ac}{r}(h:DA c_1 eK=some r):E2.F (Hc (c_1,eK))=some (Hd r):=aQ (bB bN (aR bI)) h
noncomputable def Xz :=aK Tryz.f94
noncomputable def TF :=cX [(112,zR)]
def Xy (x:Contract×ac)(r:Int):St→Prop:=QF TF Tryz.f94 [false,false] (Hc x) (Hd r)
theorem UA (c_1:Contract)(eK:ac)(r:Int)(h:DA c_1 eK=some r):bT TF Tryz.f94 [false,false] 0 (Hc (c_1,eK)) (Hd r):=by
 show Run _ _ (Xy (c_1,eK) r) [.code Xz] _
 refine rI 9 [(0,ak c_1),(1,str eK)] [] 1 ?_
 unfold DA at h
 refine ck 11 [6,7] [] [17] [] [.isl false (c_1.Clauses.map ar),.fn 113 [.hp 17 0 [] 1 0 0]] [some ⟨0,1,[str eK]⟩] 97 (by kernel_rfl) ?_
 obtain⟨r3,hr3,h⟩:=bS h
 refine oq 113 (I r3) rfl (aW rfl rfl (bv rfl rfl rfl (bm (bK rfl) (bm (Ym (lj (EG (path:=[]) rfl rfl aG rfl rfl) yW)) cy)) (Wj hr3) (.inl rfl) cI rfl rfl rfl)) ?_
 refine cq 2 [4] [I r3] 129 ?_
 obtain rfl:=sI h
 exact rP [I r3]
theorem Sp {G:cO}:cM G 94 E2:=gT 2 0 (aU O0 bX) cY Tryz.func94 (fun a r h=>UA a.1 a.2 r h)
def Ho:Int→List V:=oA I
def Hq (r:Bool):V×List V:=(B r,[])
noncomputable def E9 :=bC [false] Ho Hq fun x=>te x
theorem Hp {gE:Int}{r}(h:te gE=some r):E9.F (Ho gE)=some (Hq r):=aQ (aR cu) h
noncomputable def XI :=aK Tryz.f131
noncomputable def TN :=cX [(63,mP)]
def XH (x:Int)(r:Bool):St→Prop:=QF TN Tryz.f131 [false] (Ho x) (Hq r)
theorem UJ (gE:Int)(r:Bool)(h:te gE=some r):bT TN Tryz.f131 [false] 0 (Ho gE) (Hq r):=by
 show Run _ _ (XH gE r) [.code XI] _
 refine rI 5 [(0,I gE)] [] 1 ?_
 unfold te at h
 refine cq 7 [3] [I gE] 33 ?_
 obtain⟨r2,hr2,h⟩:=bS h
 refine oq 49 (B r2) rfl (cP (no hr2)) ?_
 refine cq 2 [2] [B r2] 65 ?_
 obtain rfl:=sI h
 exact rP [B r2]
theorem Sx {G:cO}:cM G 131 E9:=gT 1 0 (aU oo bX) cY Tryz.func131 (fun a r h=>UJ a r h)
def DC:(Condition×Int)→List V:=cA aE (oA I)
def DD (r:Int):V×List V:=(I r,[])
noncomputable def AD (aN:(Condition×Int)→Option Int):Ent:=bC [false,false] DC DD aN
theorem PW (aN:(Condition×Int)→Option Int){x}{r}(h:aN x=some r):(AD aN).F (DC x)=some (DD r):=aQ (bB bf (aR cu)) h
noncomputable def E5 :=AD (aA lZ)
theorem XE {c_1:Condition}{co:Int}{r}(h:PV c_1 co=some r):E5.F (DC (c_1,co))=some (DD r):=PW (aA lZ) h
noncomputable def tU :=aK Tryz.f114
noncomputable abbrev o7 :=cR (cR (cR (cR (cR tU))))
noncomputable abbrev qw :=cR (cL (cR (cR (cR (cR tU)))))
noncomputable def lY (aN:(Condition×Int)→Option Int):Env:=cX [(114,(AD aN)),(92,sZ),(131,E9),(63,mP)]
def eR (aN:(Condition×Int)→Option Int)(x:Condition×Int)(r:Int):St→Prop:=QF (lY aN) Tryz.f114 [false,false] (DC x) (DD r)
theorem MH (aN:(Condition×Int)→Option Int)(c_1:Condition)(co:Int):cD (lY aN) 0 (eR aN (c_1,co)) (cL (cL (cR (cL o7)))) 0 (lR aN c_1 co) (fun u=>(sT 78 [(1,I u)] [] 1)) fun x5=>(sT 78 [(1,I x5.1),(65,.isl false (c_1.Parts.map au)),(66,I (len c_1.Parts)),(67,I x5.2)] [] 1):=ey (DE aN c_1 co) fun {Q K} hK self ih x5 y h hr hn=>by
 unfold kW at h
 refine cq 5 [68] [B (decide (x5.2<(len c_1.Parts)))] 17 ?_
 refine sq h ?_ ?_<;>intro h
 ·refine aq 1 ?_
  refine aq 4 ?_
  obtain⟨e6,he6,h⟩:=bS h
  refine oq 33 (.iptr (aa e6) 0) rfl (ao rfl rfl rfl (bH rfl rfl (bd e6) rfl he6)) ?_
  refine ck 2 [7,70] [] [49] [] [.hp 49 0 [] 4 0 0,aa e6] [some ⟨0,4,[.agg [I (0),str ([]),I (0),.isl true []]]⟩] 65 (by kernel_rfl) ?_
  refine fK 49 [.agg [I (0),str ([]),I (0),.usl 4 (([]).map ae)]] rfl rfl (aD (gI (aD (.refl _) (aD (.refl _) (aD (.refl _) (aD (.nil _) eD))))) eD) ?_
  refine ck 6 [71,72] [] [49] [] [aa e6,I x5.1] [some ⟨2,4,[aa e6]⟩] 113 (by kernel_rfl) ?_
  obtain⟨r7,hr7,h⟩:=bS h
  refine oq 129 (I r7) rfl (aW rfl rfl (bv rfl rfl rfl (bm (bK rfl) (bm (bK rfl) cy)) (PW aN hr7) (.inr rfl) cI rfl rfl rfl)) ?_
  refine cq 7 [1,75] [I r7,B (decide (r7<0))] 177 ?_
  refine sq h ?_ ?_<;>intro h
  ·refine cq 4 [4] [I (-1)] 193 ?_
   exact bR rfl (hr _ (ap h) _ (qp [I (-1)]))
  ·refine aq 1 ?_
   refine cq 5 [67] [I (aj (x5.2+1))] 209 ?_
   refine cZ ?_
   exact rf [1,65,66,67] [] (ih _ _ h hr hn :)
 ·refine aq 1 ?_
  exact rf [1] [] (hn _ (ap h) :) (hk:=hK)
theorem UE (aN:(Condition×Int)→Option Int)(c_1:Condition)(co:Int)(r:Int)(h:xb aN c_1 co=some r):bT (lY aN) Tryz.f114 [false,false] 0 (DC (c_1,co)) (DD r):=by
 show Run _ _ (eR aN (c_1,co) r) [.code tU] _
 refine rI 78 [(0,aa c_1),(1,I co)] [] 1 ?_
 unfold xb at h
 refine ck 13 [1,2] [] [1] [] [I (aj (co+1)),.hp 1 0 [] 4 0 0] [some ⟨0,4,[aa c_1]⟩] 81 (by kernel_rfl) ?_
 refine oq 97 (.hs 81 0 [] 1 0 7) rfl (bW rfl (fh (f:=I) (xs:=[]) (z:=I (0)) (es:=[I (-1),I (0),I (0),I (0),I (1),I (2),I (2)]) (ws:=[I (-1),I (0),I (0),I (0),I (1),I (2),I (2)]) rfl rfl rfl (by decide) rfl (bz rfl) rfl)) ?_
 refine cq 4 [5] [.hs 81 0 [] 1 0 7] 113 ?_
 refine fa [0,1,3,7,15,31,63,127,255,511,1023,2047,511,511,8703,29183,61951,131071,262143] rfl (by decide +kernel) ?_
 refine dk 3 [13,12,11] [B (decide ((aj (co+1))>15)),B (decide ((aj (co+1))>15)),I (aj (co+1))] ?_
 obtain⟨y3,hy3,hy31,hy32⟩:=bJ h
 have j3:∀u3,y3=.inr u3→Run (lY aN) 0 (eR aN (c_1,co) r) (.code (cR (cL (cR (cR (cR tU)))))::.code (cR (cR (cR (cR tU))))::[]) (sT 78 [(1,I (aj (co+1))),(2,.hp 1 0 [] 4 0 0),(29,B u3)] [⟨0,4,[aa c_1]⟩] 2):=by
  intro u3 hu
  replace h:=hy32 u3 hu
  refine sq h ?_ ?_<;>intro h
  ·refine cq 4 [4] [I (-1)] 18 ?_
   obtain rfl:=sI h
   exact rP [I (-1)]
  ·refine aq 1 ?_
   refine cq 11 [37] [B (!((c_1.Op==2)==(!(c_1.Name==([]:ac)))))] 130 ?_
   obtain⟨y4,hy4,hy41,hy42⟩:=bJ h
   have j4:∀u4,y4=.inr u4→Run (lY aN) 0 (eR aN (c_1,co) r) (.code qw::.code o7::[]) (sT 78 [(1,I (aj (co+1))),(2,.hp 1 0 [] 4 0 0),(63,B u4)] [⟨0,4,[aa c_1]⟩] 2):=by
    intro u4 hu
    replace h:=hy42 u4 hu
    refine sq h ?_ ?_<;>intro h
    ·refine cq 4 [4] [I (-1)] 18 ?_
     obtain rfl:=sI h
     exact rP [I (-1)]
    ·refine aq 1 ?_
     refine cq 5 [65] [.isl false (c_1.Parts.map au)] 34 ?_
     refine oq 50 (I (len c_1.Parts)) rfl (bG rfl rfl rfl (cH rfl)) ?_
     refine cq 3 [67] [I (0)] 66 ?_
     obtain⟨y8,hy8,hy81,hy82⟩:=bJ h
     refine bZ rfl ?_
     refine rf [1,65,66,67] [] (MH aN c_1 co rfl ((aj (co+1)),0) _ hy8 (fun r' e st hq=>by rw[hy81 r' e] at hq;exact hq) fun u8 hu=>?_)
     replace h:=hy82 u8 hu
     refine cq 5 [4] [I u8] 33 ?_
     obtain rfl:=sI h
     exact rP [I u8]
   have r4:∀r',y4=.inl r'→∀st,eR aN (c_1,co) r' st→(eR aN (c_1,co) r) st:=fun r' e st hq=>by rw[hy41 r' e] at hq;exact hq
   replace h:=hy4
   refine sp 37 h rfl ?_ ?_<;>intro h
   ·refine cq 27 [63] [B true] 546 ?_
    exact rf [1,2,63] [1] (j4 _ (ap h) :)
   ·refine cq 4 [41] [B (c_1.Op==2)] 194 ?_
    obtain⟨y9,hy9,hy91,hy92⟩:=bL h
    have j9:∀u9,y9=.inr u9→Run (lY aN) 0 (eR aN (c_1,co) r) (.code qw::.code o7::[]) (sT 78 [(1,I (aj (co+1))),(2,.hp 1 0 [] 4 0 0),(63,B u9)] [⟨0,4,[aa c_1]⟩] 2):=by
     intro u9 hu
     replace h:=hy92 u9 hu
     exact rf [1,2,63] [1] (j4 _ (ap h) :)
    have r9:∀r',y9=.inl r'→∀st,eR aN (c_1,co) r' st→(eR aN (c_1,co) r) st:=fun r' e st hq=>r4 r' (hy91 r' e) st hq
    replace h:=hy9
    refine sp 41 h rfl ?_ ?_<;>intro h
    ·refine cq 2 [43] [str c_1.Name] 226 ?_
     obtain⟨r10,hr10,h⟩:=bS h
     refine oy 242 (B r10) rfl (cP (G4 hr10)) ?_
     refine cq 4 [48] [B (!r10)] 306 ?_
     obtain⟨y11,hy11,hy111,hy112⟩:=bL h
     have j11:∀u11,y11=.inr u11→Run (lY aN) 0 (eR aN (c_1,co) r) (.code qw::.code o7::[]) (sT 78 [(1,I (aj (co+1))),(2,.hp 1 0 [] 4 0 0),(63,B u11)] [⟨0,4,[aa c_1]⟩] 2):=by
      intro u11 hu
      replace h:=hy112 u11 hu
      exact rf [1,2,63] [1] (j9 _ (ap h) :)
     have r11:∀r',y11=.inl r'→∀st,eR aN (c_1,co) r' st→(eR aN (c_1,co) r) st:=fun r' e st hq=>r9 r' (hy111 r' e) st hq
     replace h:=hy11
     refine sp 48 h rfl ?_ ?_<;>intro h
     ·refine cq 16 [63] [B true] 546 ?_
      exact rf [1,2,63] [1] (j11 _ (ap h) :)
     ·refine cq 4 [52] [B (c_1.Op != 3)] 370 ?_
      obtain⟨y12,hy12,hy121,hy122⟩:=bL h
      have j12:∀u12,y12=.inr u12→Run (lY aN) 0 (eR aN (c_1,co) r) (.code qw::.code o7::[]) (sT 78 [(1,I (aj (co+1))),(2,.hp 1 0 [] 4 0 0),(63,B u12)] [⟨0,4,[aa c_1]⟩] 2):=by
       intro u12 hu
       replace h:=hy122 u12 hu
       exact rf [1,2,63] [1] (j11 _ (ap h) :)
      have r12:∀r',y12=.inl r'→∀st,eR aN (c_1,co) r' st→(eR aN (c_1,co) r) st:=fun r' e st hq=>r11 r' (hy121 r' e) st hq
      replace h:=hy12
      refine sp 52 h rfl ?_ ?_<;>intro h
      ·refine cq 6 [58] [B (c_1.Day != 0)] 466 ?_
       obtain⟨y13,hy13,hy131,hy132⟩:=bL h
       have j13:∀u13,y13=.inr u13→Run (lY aN) 0 (eR aN (c_1,co) r) (.code qw::.code o7::[]) (sT 78 [(1,I (aj (co+1))),(2,.hp 1 0 [] 4 0 0),(63,B u13)] [⟨0,4,[aa c_1]⟩] 2):=by
        intro u13 hu
        replace h:=hy132 u13 hu
        exact rf [1,2,63] [1] (j12 _ (ap h) :)
       have r13:∀r',y13=.inl r'→∀st,eR aN (c_1,co) r' st→(eR aN (c_1,co) r) st:=fun r' e st hq=>r12 r' (hy131 r' e) st hq
       replace h:=hy13
       refine sp 58 h rfl ?_ ?_<;>intro h
       ·refine cq 6 [63] [B true] 546 ?_
        exact rf [1,2,63] [1] (j13 _ (ap h) :)
       ·refine cq 2 [60] [I c_1.Day] 498 ?_
        obtain⟨r14,hr14,h⟩:=bS h
        refine oy 514 (B r14) rfl (cP (Hp hr14)) ?_
        refine cq 3 [63] [B (!r14)] 546 ?_
        exact rf [1,2,63] [1] (j13 _ (ap h) :)
      ·refine cq 8 [58,60] [B false,I c_1.Day] 498 ?_
       obtain⟨r15,hr15,h⟩:=bS h
       refine oy 514 (B r15) rfl (cP (Hp hr15)) ?_
       refine cq 3 [63] [B (!r15)] 546 ?_
       exact rf [1,2,63] [1] (j12 _ (ap h) :)
    ·refine cq 11 [48,52] [B false,B (c_1.Op != 3)] 370 ?_
     obtain⟨y16,hy16,hy161,hy162⟩:=bL h
     have j16:∀u16,y16=.inr u16→Run (lY aN) 0 (eR aN (c_1,co) r) (.code qw::.code o7::[]) (sT 78 [(1,I (aj (co+1))),(2,.hp 1 0 [] 4 0 0),(63,B u16)] [⟨0,4,[aa c_1]⟩] 2):=by
      intro u16 hu
      replace h:=hy162 u16 hu
      exact rf [1,2,63] [1] (j9 _ (ap h) :)
     have r16:∀r',y16=.inl r'→∀st,eR aN (c_1,co) r' st→(eR aN (c_1,co) r) st:=fun r' e st hq=>r9 r' (hy161 r' e) st hq
     replace h:=hy16
     refine sp 52 h rfl ?_ ?_<;>intro h
     ·refine cq 6 [58] [B (c_1.Day != 0)] 466 ?_
      obtain⟨y17,hy17,hy171,hy172⟩:=bL h
      have j17:∀u17,y17=.inr u17→Run (lY aN) 0 (eR aN (c_1,co) r) (.code qw::.code o7::[]) (sT 78 [(1,I (aj (co+1))),(2,.hp 1 0 [] 4 0 0),(63,B u17)] [⟨0,4,[aa c_1]⟩] 2):=by
       intro u17 hu
       replace h:=hy172 u17 hu
       exact rf [1,2,63] [1] (j16 _ (ap h) :)
      have r17:∀r',y17=.inl r'→∀st,eR aN (c_1,co) r' st→(eR aN (c_1,co) r) st:=fun r' e st hq=>r16 r' (hy171 r' e) st hq
      replace h:=hy17
      refine sp 58 h rfl ?_ ?_<;>intro h
      ·refine cq 6 [63] [B true] 546 ?_
       exact rf [1,2,63] [1] (j17 _ (ap h) :)
      ·refine cq 2 [60] [I c_1.Day] 498 ?_
       obtain⟨r18,hr18,h⟩:=bS h
       refine oy 514 (B r18) rfl (cP (Hp hr18)) ?_
       refine cq 3 [63] [B (!r18)] 546 ?_
       exact rf [1,2,63] [1] (j17 _ (ap h) :)
     ·refine cq 8 [58,60] [B false,I c_1.Day] 498 ?_
      obtain⟨r19,hr19,h⟩:=bS h
      refine oy 514 (B r19) rfl (cP (Hp hr19)) ?_
      refine cq 3 [63] [B (!r19)] 546 ?_
      exact rf [1,2,63] [1] (j16 _ (ap h) :)
 have r3:∀r',y3=.inl r'→∀st,eR aN (c_1,co) r' st→(eR aN (c_1,co) r) st:=fun r' e st hq=>by rw[hy31 r' e] at hq;exact hq
 replace h:=hy3
 refine sp 13 h rfl ?_ ?_<;>intro h
 ·refine dk 16 [29,28,27,26,25,24,23,22,21,20,19,18,17,16,15,14] [B true,.und,.und,.und,.und,.und,.und,.und,.und,.und,B true,B true,.und,.und,.und,.und] ?_
  refine de 417 rfl rfl ?_
  exact rf [1,2,29] [1] (j3 _ (ap h) :)
 ·refine dy [1] [] (.hp 1 0 [] 4 0 0) rfl (dM rfl rfl rfl) ?_
  refine dy [1] [] (I c_1.Op) rfl (cF rfl rfl) ?_
  obtain⟨r20,hr20,h⟩:=bS h
  refine dy [] [] (B r20) rfl (cP (no hr20)) ?_ (dY rfl rfl rfl rfl (bm (bK rfl) (bm (bK rfl) (bm (bK rfl) cy))) (no hr20) (.inr rfl) rfl)
  refine dk 3 [19,18,17] [B (!r20),B (!r20),B (!r20)] ?_
  obtain⟨y21,hy21,hy211,hy212⟩:=bL h
  have j21:∀u21,y21=.inr u21→Run (lY aN) 0 (eR aN (c_1,co) r) (.code (cR (cL (cR (cR (cR tU)))))::.code (cR (cR (cR (cR tU))))::[]) (sT 78 [(1,I (aj (co+1))),(2,.hp 1 0 [] 4 0 0),(29,B u21)] [⟨0,4,[aa c_1]⟩] 2):=by
   intro u21 hu
   replace h:=hy212 u21 hu
   exact rf [1,2,29] [1] (j3 _ (ap h) :)
  have r21:∀r',y21=.inl r'→∀st,eR aN (c_1,co) r' st→(eR aN (c_1,co) r) st:=fun r' e st hq=>r3 r' (hy211 r' e) st hq
  replace h:=hy21
  refine sp 19 h rfl ?_ ?_<;>intro h
  ·refine dk 10 [29,28,27,26,25,24,23,22,21,20] [B true,.und,.und,.und,.und,.und,.und,.und,.und,.und] ?_
   refine de 417 rfl rfl ?_
   exact rf [1,2,29] [1] (j21 _ (ap h) :)
  ·refine dy [1] [] (.hp 1 0 [] 4 0 3) rfl (dM rfl rfl rfl) ?_
   refine dy [1] [] (.isl false (c_1.Parts.map au)) rfl (cF rfl rfl) ?_
   refine dy [] [] (I (len c_1.Parts)) rfl (bG rfl rfl rfl (cH rfl)) ?_
   refine dk 1 [23] [.hs 81 0 [] 1 0 7] ?_
   refine dy [1] [] (.hp 1 0 [] 4 0 0) rfl (dM rfl rfl rfl) ?_
   refine dy [1] [] (I c_1.Op) rfl (cF rfl rfl) ?_
   obtain⟨e22,he22,h⟩:=bS h
   refine dy [81] [] (.hp 81 0 [] 1 (0+Int.toNat c_1.Op) 0) rfl (ao rfl rfl rfl (dJ (f:=I) (xs:=[(-1),0,0,0,1,2,2]) rfl rfl rfl he22)) ?_
   refine dy [81] [] (I e22) rfl (cF rfl (iR (path:=[]) rfl rfl rfl aG (cT (f:=I) (xs:=[(-1),0,0,0,1,2,2]) he22) rfl rfl rfl)) ?_
   refine dk 2 [29,28] [B ((len c_1.Parts) != e22),B ((len c_1.Parts) != e22)] ?_
   refine de 417 rfl rfl ?_
   exact rf [1,2,29] [1] (j21 _ (ap h) :)
theorem Ss {G:cO}:cM G 114 E5:=gx fun aN g_Ffk=>gT 2 0 (aU g_Ffk (aU Aq (aU Sx (aU oo bX)))) cY Tryz.func114 (fun a r h=>UE aN a.1 a.2 r h)
def GW:Condition→List V:=oA aE
def GX (r:Bool):V×List V:=(B r,[])
noncomputable def EM :=bC [false] GW GX fun x=>HV x
theorem Xt {c_1:Condition}{r}(h:HV c_1=some r):EM.F (GW c_1)=some (GX r):=aQ (aR bf) h
noncomputable def Xv :=aK Tryz.f95
noncomputable def TE :=cX [(114,E5)]
def Xu (x:Condition)(r:Bool):St→Prop:=QF TE Tryz.f95 [false] (GW x) (GX r)
theorem Ui (c_1:Condition)(r:Bool)(h:HV c_1=some r):bT TE Tryz.f95 [false] 0 (GW c_1) (GX r):=by
 show Run _ _ (Xu c_1 r) [.code Xv] _
 refine rI 6 [(0,aa c_1)] [] 1 ?_
 unfold HV at h
 refine cq 8 [3] [aa c_1] 49 ?_
 obtain⟨r2,hr2,h⟩:=bS h
 refine oq 65 (I r2) rfl (cP (XE hr2)) ?_
 refine cq 3 [2] [B (decide (r2>0))] 97 ?_
 obtain rfl:=sI h
 exact rP [B (decide (r2>0))]
theorem Rf {G:cO}:cM G 95 EM:=gT 1 0 (aU Ss bX) cY Tryz.func95 (fun a r h=>Ui a r h)
def Hm:(Contract×Int)→List V:=cA aO (oA I)
def Hn (r:Bool):V×List V:=(B r,[])
noncomputable def E8 :=bC [false,false] Hm Hn fun x=>IW x.1 x.2
theorem XG {c_1:Contract}{i_2:Int}{r}(h:IW c_1 i_2=some r):E8.F (Hm (c_1,i_2))=some (Hn r):=aQ (bB bN (aR cu)) h
noncomputable def ly :=aK Tryz.f64
noncomputable abbrev IX :=cR (cL (cR (cR (cR (cR ly)))))
noncomputable abbrev vY :=cR (cR (cR (cR (cR (cR ly)))))
noncomputable abbrev DJ :=cR (cL (cR (cR (cR (cR (cR ly))))))
noncomputable abbrev IY :=cR (cR (cR vY))
noncomputable def jL :=cX [(92,sZ),(63,mP),(94,E2),(95,EM)]
def eh (x:Contract×Int)(r:Bool):St→Prop:=QF jL Tryz.f64 [false,false] (Hm x) (Hn r)
theorem UI (c_1:Contract)(i_2:Int)(r:Bool)(h:IW c_1 i_2=some r):bT jL Tryz.f64 [false,false] 0 (Hm (c_1,i_2)) (Hn r):=by
 show Run _ _ (eh (c_1,i_2) r) [.code ly] _
 refine rI 119 [(0,ak c_1),(1,I i_2)] [] 1 ?_
 unfold IW at h
 refine ck 10 [2,9,10] [] [1] [] [.hp 1 0 [] 2 0 0,.isl false (c_1.Clauses.map ar),I i_2] [some ⟨0,2,[ak c_1]⟩] 81 (by kernel_rfl) ?_
 obtain⟨e3,he3,h⟩:=bS h
 refine oq 97 (.iptr (al e3) 0) rfl (ao rfl rfl rfl (bH rfl rfl rfl rfl he3)) ?_
 refine ck 2 [5,12] [] [113] [] [.hp 113 0 [] 12 0 0,al e3] [some ⟨0,12,[.agg [str ([]),I (0),I (0),str ([]),I (0),I (0),I (0),str ([]),I (0),.isl true [],I (0),str ([])]]⟩] 129 (by kernel_rfl) ?_
 refine fK 113 [.agg [str ([]),I (0),I (0),str ([]),I (0),I (0),I (0),str ([]),I (0),.usl 4 (([]).map ae),I (0),str ([])]] rfl rfl (aD (gI (aD (.refl _) (aD (.refl _) (aD (.refl _) (aD (.refl _) (aD (.refl _) (aD (.refl _) (aD (.refl _) (aD (.refl _) (aD (.refl _) (aD (.nil _) (aD (.refl _) (aD (.refl _) eD))))))))))))) eD) ?_
 refine ck 6 [14] [] [113] [] [.isl false (c_1.Parties.map str)] [some ⟨2,12,[al e3]⟩] 177 (by kernel_rfl) ?_
 refine oq 193 (I (len c_1.Parties)) rfl (bG rfl rfl rfl (cH rfl)) ?_
 refine cq 8 [6,18] [I (aj ((len c_1.Parties) - 1)),str e3.Id] 257 ?_
 obtain⟨r4,hr4,h⟩:=bS h
 refine oq 273 (B r4) rfl (cP (G4 hr4)) ?_
 refine cq 2 [21] [B (!r4)] 305 ?_
 obtain⟨y5,hy5,hy51,hy52⟩:=bJ h
 have j5:∀u5,y5=.inr u5→Run jL 0 (eh (c_1,i_2) r) (.code (cR (cL (cR (cR (cR ly)))))::.code (cR (cR (cR (cR ly))))::[]) (sT 119 [(1,I i_2),(2,.hp 1 0 [] 2 0 0),(5,.hp 2 0 [] 12 0 0),(6,I (aj ((len c_1.Parties) - 1))),(40,B u5)] [⟨0,2,[ak c_1]⟩,⟨0,12,[al e3]⟩] 3):=by
  intro u5 hu
  replace h:=hy52 u5 hu
  refine sq h ?_ ?_<;>intro h
  ·refine cq 4 [4] [B false] 19 ?_
   obtain rfl:=sI h
   exact rP [B false]
  ·refine aq 1 ?_
   refine cq 6 [42,43] [I e3.Party,I (aj ((len c_1.Parties) - 1))] 51 ?_
   obtain⟨r6,hr6,h⟩:=bS h
   refine oq 67 (B r6) rfl (cP (no hr6)) ?_
   refine cq 2 [46] [B (!r6)] 99 ?_
   obtain⟨y7,hy7,hy71,hy72⟩:=bJ h
   have j7:∀u7,y7=.inr u7→Run jL 0 (eh (c_1,i_2) r) (.code IX::.code (cR (cR (cR (cR (cR ly)))))::[]) (sT 119 [(1,I i_2),(2,.hp 1 0 [] 2 0 0),(5,.hp 2 0 [] 12 0 0),(65,B u7)] [⟨0,2,[ak c_1]⟩,⟨0,12,[al e3]⟩] 3):=by
    intro u7 hu
    replace h:=hy72 u7 hu
    refine sq h ?_ ?_<;>intro h
    ·refine cq 4 [4] [B false] 19 ?_
     obtain rfl:=sI h
     exact rP [B false]
    ·refine aq 1 ?_
     refine cq 5 [67] [I e3.Amount] 35 ?_
     obtain⟨r8,hr8,h⟩:=bS h
     refine oq 51 (B r8) rfl (cP (no hr8)) ?_
     refine cq 2 [70] [B (!r8)] 83 ?_
     obtain⟨y9,hy9,hy91,hy92⟩:=bJ h
     have j9:∀u9,y9=.inr u9→Run jL 0 (eh (c_1,i_2) r) (.code DJ::.code vY::[]) (sT 119 [(1,I i_2),(2,.hp 1 0 [] 2 0 0),(5,.hp 2 0 [] 12 0 0),(90,B u9)] [⟨0,2,[ak c_1]⟩,⟨0,12,[al e3]⟩] 3):=by
      intro u9 hu
      replace h:=hy92 u9 hu
      refine sq h ?_ ?_<;>intro h
      ·refine cq 4 [4] [B false] 19 ?_
       obtain rfl:=sI h
       exact rP [B false]
      ·refine aq 1 ?_
       refine cq 7 [93] [B (e3.Repair==([]:ac))] 51 ?_
       refine sq h ?_ ?_<;>intro h
       ·refine cq 4 [4] [B true] 67 ?_
        obtain rfl:=sI h
        exact rP [B true]
       ·refine aq 1 ?_
        refine cq 5 [94,96] [ak c_1,str e3.Repair] 99 ?_
        obtain⟨r10,hr10,h⟩:=bS h
        refine oq 115 (I r10) rfl (cP (TG hr10)) ?_
        refine cq 8 [7,101] [I r10,B (e3.Kind != 3)] 195 ?_
        obtain⟨y11,hy11,hy111,hy112⟩:=bJ h
        have j11:∀u11,y11=.inr u11→Run jL 0 (eh (c_1,i_2) r) (.code IY::[]) (sT 119 [(4,B u11)] [] 1):=by
         intro u11 hu
         replace h:=hy112 u11 hu
         obtain rfl:=sI h
         exact rP [B u11]
        have r11:∀r',y11=.inl r'→∀st,eh (c_1,i_2) r' st→(eh (c_1,i_2) r) st:=fun r' e st hq=>by rw[hy111 r' e] at hq;exact hq
        replace h:=hy11
        refine sp 101 h rfl ?_ ?_<;>intro h
        ·refine cq 4 [105] [B (decide (r10≥0))] 259 ?_
         obtain⟨y12,hy12,hy121,hy122⟩:=bL h
         have j12:∀u12,y12=.inr u12→Run jL 0 (eh (c_1,i_2) r) (.code IY::[]) (sT 119 [(4,B u12)] [] 1):=by
          intro u12 hu
          replace h:=hy122 u12 hu
          exact rf [4] [] (j11 _ (ap h) :)
         have r12:∀r',y12=.inl r'→∀st,eh (c_1,i_2) r' st→(eh (c_1,i_2) r) st:=fun r' e st hq=>r11 r' (hy121 r' e) st hq
         replace h:=hy12
         refine sp 105 h rfl ?_ ?_<;>intro h
         ·refine cq 5 [110] [B (r10 != i_2)] 339 ?_
          obtain⟨y13,hy13,hy131,hy132⟩:=bL h
          have j13:∀u13,y13=.inr u13→Run jL 0 (eh (c_1,i_2) r) (.code IY::[]) (sT 119 [(4,B u13)] [] 1):=by
           intro u13 hu
           replace h:=hy132 u13 hu
           exact rf [4] [] (j12 _ (ap h) :)
          have r13:∀r',y13=.inl r'→∀st,eh (c_1,i_2) r' st→(eh (c_1,i_2) r) st:=fun r' e st hq=>r12 r' (hy131 r' e) st hq
          replace h:=hy13
          refine sp 110 h rfl ?_ ?_<;>intro h
          ·refine cq 3 [112,113] [.isl false (c_1.Clauses.map ar),I r10] 387 ?_
           obtain⟨e14,he14,h⟩:=bS h
           refine oy 403 (.iptr (al e14) 0) rfl (ao rfl rfl rfl (bH rfl rfl rfl rfl he14)) ?_
           refine cq 6 [4] [B (e14.Kind==1)] 483 ?_
           exact rf [4] [] (j13 _ (ap h) :)
          ·refine cq 10 [4] [B false] 483 ?_
           exact rf [4] [] (j13 _ (ap h) :)
         ·refine cq 15 [4] [B false] 483 ?_
          exact rf [4] [] (j12 _ (ap h) :)
        ·refine cq 19 [4] [B false] 483 ?_
         exact rf [4] [] (j11 _ (ap h) :)
     have r9:∀r',y9=.inl r'→∀st,eh (c_1,i_2) r' st→(eh (c_1,i_2) r) st:=fun r' e st hq=>by rw[hy91 r' e] at hq;exact hq
     replace h:=hy9
     refine sp 70 h rfl ?_ ?_<;>intro h
     ·refine cq 21 [90] [B true] 403 ?_
      exact rf [1,2,5,90] [1,2] (j9 _ (ap h) :)
     ·refine cq 2 [72] [I e3.Within] 115 ?_
      obtain⟨r15,hr15,h⟩:=bS h
      refine oy 131 (B r15) rfl (cP (no hr15)) ?_
      refine cq 3 [76] [B (!r15)] 179 ?_
      obtain⟨u16,hu16,h⟩:=lJ h
      have j16:Run jL 0 (eh (c_1,i_2) r) (.code DJ::.code vY::[]) (sT 119 [(1,I i_2),(2,.hp 1 0 [] 2 0 0),(5,.hp 2 0 [] 12 0 0),(90,B u16)] [⟨0,2,[ak c_1]⟩,⟨0,12,[al e3]⟩] 3):=by
       exact rf [1,2,5,90] [1,2] (j9 _ (ap h) :)
      replace h:=hu16
      clear hu16
      refine sp 76 h rfl ?_ ?_<;>intro h
      ·refine cq 15 [90] [B true] 403 ?_
       subst h
       exact rf [1,2,5,90] [1,2] (j16 :)
      ·refine cq 4 [80] [B (e3.Kind != 1)] 243 ?_
       obtain⟨u17,hu17,h⟩:=lJ h
       have j17:Run jL 0 (eh (c_1,i_2) r) (.code DJ::.code vY::[]) (sT 119 [(1,I i_2),(2,.hp 1 0 [] 2 0 0),(5,.hp 2 0 [] 12 0 0),(90,B u17)] [⟨0,2,[ak c_1]⟩,⟨0,12,[al e3]⟩] 3):=by
        subst h
        exact rf [1,2,5,90] [1,2] (j16 :)
       replace h:=hu17
       clear hu17
       refine sp 80 h rfl ?_ ?_<;>intro h
       ·refine cq 4 [84] [B (e3.Amount != 0)] 307 ?_
        obtain⟨u18,hu18,h⟩:=lJ h
        have j18:Run jL 0 (eh (c_1,i_2) r) (.code DJ::.code vY::[]) (sT 119 [(1,I i_2),(2,.hp 1 0 [] 2 0 0),(5,.hp 2 0 [] 12 0 0),(90,B u18)] [⟨0,2,[ak c_1]⟩,⟨0,12,[al e3]⟩] 3):=by
         subst h
         exact rf [1,2,5,90] [1,2] (j17 :)
        replace h:=hu18
        clear hu18
        refine sp 84 h rfl ?_ ?_<;>intro h
        ·refine cq 7 [90] [B true] 403 ?_
         subst h
         exact rf [1,2,5,90] [1,2] (j18 :)
        ·refine cq 7 [90] [B (e3.Within != 0)] 403 ?_
         subst h
         exact rf [1,2,5,90] [1,2] (j18 :)
       ·refine cq 11 [90] [B false] 403 ?_
        subst h
        exact rf [1,2,5,90] [1,2] (j17 :)
   have r7:∀r',y7=.inl r'→∀st,eh (c_1,i_2) r' st→(eh (c_1,i_2) r) st:=fun r' e st hq=>by rw[hy71 r' e] at hq;exact hq
   replace h:=hy7
   refine sp 46 h rfl ?_ ?_<;>intro h
   ·refine cq 20 [65] [B true] 403 ?_
    exact rf [1,2,5,65] [1,2] (j7 _ (ap h) :)
   ·refine cq 3 [48,49] [I e3.Other,I (aj ((len c_1.Parties) - 1))] 147 ?_
    obtain⟨r19,hr19,h⟩:=bS h
    refine oy 163 (B r19) rfl (cP (no hr19)) ?_
    refine cq 3 [53] [B (!r19)] 211 ?_
    obtain⟨y20,hy20,hy201,hy202⟩:=bL h
    have j20:∀u20,y20=.inr u20→Run jL 0 (eh (c_1,i_2) r) (.code IX::.code (cR (cR (cR (cR (cR ly)))))::[]) (sT 119 [(1,I i_2),(2,.hp 1 0 [] 2 0 0),(5,.hp 2 0 [] 12 0 0),(65,B u20)] [⟨0,2,[ak c_1]⟩,⟨0,12,[al e3]⟩] 3):=by
     intro u20 hu
     replace h:=hy202 u20 hu
     exact rf [1,2,5,65] [1,2] (j7 _ (ap h) :)
    have r20:∀r',y20=.inl r'→∀st,eh (c_1,i_2) r' st→(eh (c_1,i_2) r) st:=fun r' e st hq=>r7 r' (hy201 r' e) st hq
    replace h:=hy20
    refine sp 53 h rfl ?_ ?_<;>intro h
    ·refine cq 13 [65] [B true] 403 ?_
     exact rf [1,2,5,65] [1,2] (j20 _ (ap h) :)
    ·refine cq 7 [60] [B (e3.Party==e3.Other)] 323 ?_
     obtain⟨y21,hy21,hy211,hy212⟩:=bL h
     have j21:∀u21,y21=.inr u21→Run jL 0 (eh (c_1,i_2) r) (.code IX::.code (cR (cR (cR (cR (cR ly)))))::[]) (sT 119 [(1,I i_2),(2,.hp 1 0 [] 2 0 0),(5,.hp 2 0 [] 12 0 0),(65,B u21)] [⟨0,2,[ak c_1]⟩,⟨0,12,[al e3]⟩] 3):=by
      intro u21 hu
      replace h:=hy212 u21 hu
      exact rf [1,2,5,65] [1,2] (j20 _ (ap h) :)
     have r21:∀r',y21=.inl r'→∀st,eh (c_1,i_2) r' st→(eh (c_1,i_2) r) st:=fun r' e st hq=>r20 r' (hy211 r' e) st hq
     replace h:=hy21
     refine sp 60 h rfl ?_ ?_<;>intro h
     ·refine cq 6 [65] [B true] 403 ?_
      exact rf [1,2,5,65] [1,2] (j21 _ (ap h) :)
     ·refine cq 2 [62] [aa e3.When] 355 ?_
      obtain⟨r22,hr22,h⟩:=bS h
      refine oy 371 (B r22) rfl (cP (Xt hr22)) ?_
      refine cq 3 [65] [B (!r22)] 403 ?_
      exact rf [1,2,5,65] [1,2] (j21 _ (ap h) :)
 have r5:∀r',y5=.inl r'→∀st,eh (c_1,i_2) r' st→(eh (c_1,i_2) r) st:=fun r' e st hq=>by rw[hy51 r' e] at hq;exact hq
 replace h:=hy5
 refine sp 21 h rfl ?_ ?_<;>intro h
 ·refine cq 20 [40] [B true] 609 ?_
  exact rf [1,2,5,6,40] [1,113] (j5 _ (ap h) :)
 ·refine cq 3 [22,24] [ak c_1,str e3.Id] 353 ?_
  obtain⟨r23,hr23,h⟩:=bS h
  refine oy 369 (I r23) rfl (cP (TG hr23)) ?_
  refine cq 4 [29] [B (r23 != i_2)] 433 ?_
  obtain⟨y24,hy24,hy241,hy242⟩:=bL h
  have j24:∀u24,y24=.inr u24→Run jL 0 (eh (c_1,i_2) r) (.code (cR (cL (cR (cR (cR ly)))))::.code (cR (cR (cR (cR ly))))::[]) (sT 119 [(1,I i_2),(2,.hp 1 0 [] 2 0 0),(5,.hp 2 0 [] 12 0 0),(6,I (aj ((len c_1.Parties) - 1))),(40,B u24)] [⟨0,2,[ak c_1]⟩,⟨0,12,[al e3]⟩] 3):=by
   intro u24 hu
   replace h:=hy242 u24 hu
   exact rf [1,2,5,6,40] [1,2] (j5 _ (ap h) :)
  have r24:∀r',y24=.inl r'→∀st,eh (c_1,i_2) r' st→(eh (c_1,i_2) r) st:=fun r' e st hq=>r5 r' (hy241 r' e) st hq
  replace h:=hy24
  refine sp 29 h rfl ?_ ?_<;>intro h
  ·refine cq 12 [40] [B true] 609 ?_
   exact rf [1,2,5,6,40] [1,113] (j24 _ (ap h) :)
  ·refine cq 2 [31] [str e3.Action] 465 ?_
   obtain⟨r25,hr25,h⟩:=bS h
   refine oy 481 (B r25) rfl (cP (G4 hr25)) ?_
   refine cq 3 [35] [B (!r25)] 529 ?_
   obtain⟨y26,hy26,hy261,hy262⟩:=bL h
   have j26:∀u26,y26=.inr u26→Run jL 0 (eh (c_1,i_2) r) (.code (cR (cL (cR (cR (cR ly)))))::.code (cR (cR (cR (cR ly))))::[]) (sT 119 [(1,I i_2),(2,.hp 1 0 [] 2 0 0),(5,.hp 2 0 [] 12 0 0),(6,I (aj ((len c_1.Parties) - 1))),(40,B u26)] [⟨0,2,[ak c_1]⟩,⟨0,12,[al e3]⟩] 3):=by
    intro u26 hu
    replace h:=hy262 u26 hu
    exact rf [1,2,5,6,40] [1,2] (j24 _ (ap h) :)
   have r26:∀r',y26=.inl r'→∀st,eh (c_1,i_2) r' st→(eh (c_1,i_2) r) st:=fun r' e st hq=>r24 r' (hy261 r' e) st hq
   replace h:=hy26
   refine sp 35 h rfl ?_ ?_<;>intro h
   ·refine cq 6 [40] [B true] 609 ?_
    exact rf [1,2,5,6,40] [1,113] (j26 _ (ap h) :)
   ·refine cq 2 [37] [I e3.Kind] 561 ?_
    obtain⟨r27,hr27,h⟩:=bS h
    refine oy 577 (B r27) rfl (cP (no hr27)) ?_
    refine cq 3 [40] [B (!r27)] 609 ?_
    exact rf [1,2,5,6,40] [1,113] (j26 _ (ap h) :)
theorem Sw {G:cO}:cM G 64 E8:=gT 2 0 (aU Aq (aU oo (aU Sp (aU Rf bX)))) cY Tryz.func64 (fun a r h=>UI a.1 a.2 r h)
def Du:(Condition×(List ac))→List V:=cA aE (oA (pG 1 str))
def Dw (r:(List ac)):V×List V:=(.usl 1 (r.map str),[.dead])
noncomputable def AC (cn:(Condition×(List ac))→Option (List ac)):Ent:=bC [false,true] Du Dw cn
theorem PT (cn:(Condition×(List ac))→Option (List ac)){x}{r}(h:cn x=some r):(AC cn).F (Du x)=some (Dw r):=aQ (bB bf (aR (fZ bI))) h
noncomputable def qh :=W7 [none,some 1] (AC (aA nj))
theorem xa {c_3:Condition}{bg:List ac}{r}(h:IQ c_3 bg=some r):qh.F (Du (c_3,bg))=some (Dw r):=PT (aA nj) h
noncomputable def MB :=aK Tryz.f69
noncomputable def G8 (cn:(Condition×(List ac))→Option (List ac)):Env:=cX [(69,(AC cn))]
def Dv (cn:(Condition×(List ac))→Option (List ac))(x:Condition×(List ac))(r:(List ac)):St→Prop:=QF (G8 cn) Tryz.f69 [false,true] (Du x) (Dw r)
theorem MC (cn:(Condition×(List ac))→Option (List ac))(c_3:Condition)(bg:List ac):cD (G8 cn) 1 (Dv cn (c_3,bg)) (cL (cL (cR (cL (cR (cR MB)))))) 0 (nk cn c_3 bg) (fun u=>(sO 27 [(1,.hs 2 0 [] 1 0 (u.map str).length)] [none,some ⟨0,1,u.map str⟩] 3)) fun x4=>(sO 27 [(1,.hs 2 0 [] 1 0 (x4.2.map str).length),(16,.isl false (c_3.Parts.map au)),(17,I (len c_3.Parts)),(18,I x4.1)] [none,some ⟨0,1,x4.2.map str⟩] 3):=ey (Dx cn c_3 bg) fun {Q K} hK self ih x4 y h hr hn=>by
 unfold kV at h
 refine cq 5 [19] [B (decide (x4.1<(len c_3.Parts)))] 19 ?_
 refine sq h ?_ ?_<;>intro h
 ·refine aq 1 ?_
  refine aq 4 ?_
  obtain⟨e5,he5,h⟩:=bS h
  refine oq 35 (.iptr (aa e5) 0) rfl (ao rfl rfl rfl (bH rfl rfl (bd e5) rfl he5)) ?_
  refine ck 2 [6,21] [] [51] [] [.hp 51 0 [] 4 0 0,aa e5] [some ⟨0,4,[.agg [I (0),str ([]),I (0),.isl true []]]⟩] 67 (by kernel_rfl) ?_
  refine fK 51 [.agg [I (0),str ([]),I (0),.usl 4 (([]).map ae)]] rfl rfl (aD (gI (aD (.refl _) (aD (.refl _) (aD (.refl _) (aD (.nil _) eD))))) eD) ?_
  refine ck 5 [22,23] [] [51] [] [aa e5,.hs 2 0 [] 1 0 (x4.2.map str).length] [some ⟨2,4,[aa e5]⟩] 115 (by kernel_rfl) ?_
  obtain⟨r6,hr6,h⟩:=bS h
  refine oq 131 (.hs 115 0 [] 1 0 (r6.map str).length) rfl (aW rfl rfl (bv rfl rfl rfl (bm (bK rfl) (fq (fb rfl (dH (path:=[]) rfl rfl aG rfl)) cy)) (PT cn hr6) (.inr rfl) (fU rfl rfl rfl eu cI) rfl rfl rfl)) ?_
  refine cq 7 [1,18] [.hs 115 0 [] 1 0 (r6.map str).length,I (aj (x4.1+1))] 179 ?_
  refine cZ ?_
  exact rg [1,16,17,18] [180,115] (ih _ _ h hr hn :)
 ·refine aq 1 ?_
  exact rg [1] [20,2] (hn _ (ap h) :) (hk:=hK)
theorem Uy (cn:(Condition×(List ac))→Option (List ac))(c_3:Condition)(bg:List ac)(r:(List ac))(h:wZ cn c_3 bg=some r):bT (G8 cn) Tryz.f69 [false,true] 1 (Du (c_3,bg)) (Dw r):=by
 show Run _ _ (Dv cn (c_3,bg) r) [.code MB] _
 refine rI 27 [(0,aa c_3),(1,.hs 1 0 [] 1 0 (bg.map str).length)] [(1,some ⟨0,1,bg.map str⟩)] 2 ?_
 unfold wZ at h
 refine ck 12 [2,9] [] [2] [] [.hp 2 0 [] 4 0 0,B (c_3.Op==2)] [some ⟨0,4,[aa c_3]⟩] 82 (by kernel_rfl) ?_
 obtain⟨y3,hy3,hy31,hy32⟩:=bJ h
 have j3:∀u3,y3=.inr u3→Run (G8 cn) 1 (Dv cn (c_3,bg) r) (.code (cR (cR MB))::[]) (sO 27 [(1,.hs 2 0 [] 1 0 (u3.map str).length),(2,.hp 3 0 [] 4 0 0)] [none,some ⟨0,1,u3.map str⟩,some ⟨0,4,[aa c_3]⟩] 4):=by
  intro u3 hu
  replace h:=hy32 u3 hu
  refine cq 5 [16] [.isl false (c_3.Parts.map au)] 36 ?_
  refine oq 52 (I (len c_3.Parts)) rfl (bG rfl rfl rfl (cH rfl)) ?_
  refine cq 3 [18] [I (0)] 68 ?_
  obtain⟨y7,hy7,hy71,hy72⟩:=bJ h
  refine bZ rfl ?_
  refine rg [1,16,17,18] [69,2] (MC cn c_3 bg rfl (0,u3) _ hy7 (fun r' e st hq=>by rw[hy71 r' e] at hq;exact hq) fun u7 hu=>?_)
  replace h:=hy72 u7 hu
  refine cq 5 [4] [.hs 2 0 [] 1 0 (u7.map str).length] 35 ?_
  obtain rfl:=sI h
  exact bR rfl ⟨_,fin (vs:=[.hs 2 0 [] 1 0 (u7.map str).length]) rfl (ec (fe rfl (dt rfl rfl)) dZ) rfl (ed (kr rfl (jb rfl) eH)),mq eE⟩
 have r3:∀r',y3=.inl r'→∀st,Dv cn (c_3,bg) r' st→(Dv cn (c_3,bg) r) st:=fun r' e st hq=>by rw[hy31 r' e] at hq;exact hq
 replace h:=hy3
 refine sq h ?_ ?_<;>intro h
 ·refine cq 4 [10,12] [.hs 1 0 [] 1 0 (bg.map str).length,str c_3.Name] 130 ?_
  refine oq 146 (.hs 130 0 [] 1 0 1) rfl (bW rfl (fh (f:=I) (xs:=[]) (z:=str ([])) (es:=[str c_3.Name]) (ws:=[str c_3.Name]) rfl rfl rfl (by decide) rfl (bz rfl) rfl)) ?_
  obtain⟨a8,ha8,h⟩:=bS h
  refine oq 162 (.hs 146 0 [] 1 0 (a8.map str).length) rfl (fW rfl rfl rfl rfl rfl (iL (path:=[]) (f:=str) (xs:=bg) (ys:=[c_3.Name]) rfl rfl (kq rfl rfl rfl) rfl rfl rfl aG rfl (by decide) iX ha8 rfl lO)) ?_
  refine cq 2 [1] [.hs 146 0 [] 1 0 (a8.map str).length] 178 ?_
  exact rg [1,2] [179,146,2] (j3 _ (ap h) :)
 ·refine aq 1 ?_
  exact rg [1,2] [83,1,2] (j3 _ (ap h) :)
theorem IR {G:cO}:cM G 69 qh:=Xb [none,some 1] (gx fun cn g_Fff=>gT 2 1 (aU g_Fff bX) cY Tryz.func69 (fun a r h=>Uy cn a.1 a.2 r h))
def Km:Shelf.Ren:=⟨fun | 190=>96 | 125=>101 | 258=>115 | 128=>125 | 129=>126 | 302=>132 | 303=>133 | 304=>134 | 305=>135 | 306=>136 | 307=>137 | 308=>138 | 309=>139 | 310=>140 | 333=>150 | 329=>142 | 330=>143 | 334=>151 | 335=>152 | 336=>128 | 344=>158 | n=>n,fun | 31=>22 | 9=>9 | 3=>3 | 46=>109 | 0=>0 | 51=>138 | 53=>140 | 4=>4 | 183=>131 | 182=>130 | 131=>135 | 5=>5 | 218=>148 | 222=>152 | 228=>157 | 229=>158 | n=>n,fun | n=>n⟩
theorem TA:Go.Proofs.Lays.n190 Tryz.prog Km where
 mixed:=by kernel_rfl
 f125:=Tryz.func101.trans (congrArg some (by kernel_rfl))
 f128:=Tryz.func125.trans (congrArg some (by kernel_rfl))
 f129:=Tryz.func126.trans (congrArg some (by kernel_rfl))
 f190:=Tryz.func96.trans (congrArg some (by kernel_rfl))
 f258:=Tryz.func115.trans (congrArg some (by kernel_rfl))
 f302:=Tryz.func132.trans (congrArg some (by kernel_rfl))
 f303:=Tryz.func133.trans (congrArg some (by kernel_rfl))
 f304:=Tryz.func134.trans (congrArg some (by kernel_rfl))
 f305:=Tryz.func135.trans (congrArg some (by kernel_rfl))
 f306:=Tryz.func136.trans (congrArg some (by kernel_rfl))
 f307:=Tryz.func137.trans (congrArg some (by kernel_rfl))
 f308:=Tryz.func138.trans (congrArg some (by kernel_rfl))
 f309:=Tryz.func139.trans (congrArg some (by kernel_rfl))
 f310:=Tryz.func140.trans (congrArg some (by kernel_rfl))
 f329:=Tryz.func142.trans (congrArg some (by kernel_rfl))
 f330:=Tryz.func143.trans (congrArg some (by kernel_rfl))
 f333:=Tryz.func150.trans (congrArg some (by kernel_rfl))
 f334:=Tryz.func151.trans (congrArg some (by kernel_rfl))
 f335:=Tryz.func152.trans (congrArg some (by kernel_rfl))
 f336:=Tryz.func128.trans (congrArg some (by kernel_rfl))
 f344:=Tryz.func158.trans (congrArg some (by kernel_rfl))
 t0:=Tryz.underlying0
 a0:=Tryz.isAgg0
 z0:=Tryz.sizeOf0
 v0:=Tryz.zeroValue0
 t3:=Tryz.underlying3
 a3:=Tryz.isAgg3
 z3:=Tryz.sizeOf3
 v3:=Tryz.zeroValue3
 t4:=Tryz.underlying4
 a4:=Tryz.isAgg4
 z4:=Tryz.sizeOf4
 v4:=Tryz.zeroValue4
 t5:=Tryz.underlying5
 a5:=Tryz.isAgg5
 z5:=Tryz.sizeOf5
 v5:=Tryz.zeroValue5
 t9:=Tryz.underlying9
 a9:=Tryz.isAgg9
 z9:=Tryz.sizeOf9
 v9:=Tryz.zeroValue9
 t31:=Tryz.underlying22
 a31:=Tryz.isAgg22
 z31:=Tryz.sizeOf22
 v31:=Tryz.zeroValue22
 t46:=Tryz.underlying109
 a46:=Tryz.isAgg109
 z46:=Tryz.sizeOf109
 v46:=Tryz.zeroValue109
 t51:=Tryz.underlying138
 a51:=Tryz.isAgg138
 z51:=Tryz.sizeOf138
 v51:=Tryz.zeroValue138
 t53:=Tryz.underlying140
 a53:=Tryz.isAgg140
 z53:=Tryz.sizeOf140
 v53:=Tryz.zeroValue140
 t131:=Tryz.underlying135
 a131:=Tryz.isAgg135
 z131:=Tryz.sizeOf135
 v131:=Tryz.zeroValue135
 t182:=Tryz.underlying130
 a182:=Tryz.isAgg130
 z182:=Tryz.sizeOf130
 v182:=Tryz.zeroValue130
 t183:=Tryz.underlying131
 a183:=Tryz.isAgg131
 z183:=Tryz.sizeOf131
 v183:=Tryz.zeroValue131
 t218:=Tryz.underlying148
 a218:=Tryz.isAgg148
 z218:=Tryz.sizeOf148
 v218:=Tryz.zeroValue148
 t222:=Tryz.underlying152
 a222:=Tryz.isAgg152
 z222:=Tryz.sizeOf152
 v222:=Tryz.zeroValue152
 t228:=Tryz.underlying157
 a228:=Tryz.isAgg157
 z228:=Tryz.sizeOf157
 v228:=Tryz.zeroValue157
 t229:=Tryz.underlying158
 a229:=Tryz.isAgg158
 z229:=Tryz.sizeOf158
 v229:=Tryz.zeroValue158
noncomputable def uL :=bC [true] (oA (pG 1 str)) (fun r=>(.tup [],[.usl 1 (r.map str)])) tD
theorem Tz {l:List ac}{r}(h:tD l=some r):uL.F [.usl 1 (l.map str)]=some (.tup [],[.usl 1 (r.map str)]):=aQ (ea:=oA (pG 1 str)) (aR (fZ bI)) h
theorem Lp {G:cO}:cM G 96 uL:=Nk TA
def B3:(List ac)→List V:=oA (pG 1 str)
def B5 (r:(List ac)):V×List V:=(.usl 1 (r.map str),[.dead])
noncomputable def zQ :=bC [true] B3 B5 fun x=>zP x
theorem Wg {s_2:List ac}{r}(h:zP s_2=some r):zQ.F (B3 s_2)=some (B5 r):=aQ (aR (fZ bI)) h
noncomputable def Ik :=aK Tryz.f97
noncomputable abbrev EO :=cL (cL (cR (cL (cR (cL (cR (cL (cL (cR (cL (cL (cR (cL (cR (cR Ik)))))))))))))))
noncomputable def vm :=cX []
def B4 (x:(List ac))(r:(List ac)):St→Prop:=QF vm Tryz.f97 [true] (B3 x) (B5 r)
theorem KF (s_2:List ac)(x2:Int):cD vm 1 (B4 s_2) EO 2 (ke s_2 x2) (fun u=>(sO 61 [(0,.hs 2 0 [] 1 0 (u.2.map str).length),(3,I u.1)] [none,some ⟨0,1,u.2.map str⟩] 3)) fun x6=>(sO 61 [(0,.hs 2 0 [] 1 0 (x6.2.2.map str).length),(3,I x6.1),(4,.hs 2 0 [] 1 (0+Int.toNat x2) (Int.toNat (len s_2) - Int.toNat x2)),(5,I x6.2.1)] [none,some ⟨0,1,x6.2.2.map str⟩] 3):=ey (yb s_2 x2) fun {Q K} hK self ih x6 y h hr hn=>by
 unfold kH at h
 refine cq 8 [32] [B (decide (x6.2.1<(((Int.toNat (len s_2) - Int.toNat x2):Nat):Int)))] 67 ?_
 refine sq h ?_ ?_<;>intro h
 ·refine aq 1 ?_
  refine aq 3 ?_
  refine fa [0,0,3,7,0,0,32,112,240,511] rfl (by decide +kernel) ?_
  refine dk 2 [36,35] [I x6.2.1,.hs 2 0 [] 1 (0+Int.toNat x2) (Int.toNat (len s_2) - Int.toNat x2)] ?_
  obtain⟨e7,he7,h⟩:=bS h
  refine dq [2] [] (.hp 2 0 [] 1 ((0+Int.toNat x2)+Int.toNat x6.2.1) 0) rfl (ao rfl rfl rfl (Nr (xs:=x6.2.2) rfl rfl he7)) ?_
  refine dq [2] [] (str e7) rfl (cF rfl (iR (path:=[]) rfl rfl rfl aG (JB (f:=str) (xs:=x6.2.2) he7) rfl rfl rfl)) ?_
  refine dk 3 [41,40,39] [I (aj (x6.2.1 - 1)),I x6.2.1,.hs 2 0 [] 1 (0+Int.toNat x2) (Int.toNat (len s_2) - Int.toNat x2)] ?_
  obtain⟨e8,he8,h⟩:=bS h
  refine dq [2] [] (.hp 2 0 [] 1 ((0+Int.toNat x2)+Int.toNat (aj (x6.2.1 - 1))) 0) rfl (ao rfl rfl rfl (Nr (xs:=x6.2.2) rfl rfl he8)) ?_
  refine dq [2] [] (str e8) rfl (cF rfl (iR (path:=[]) rfl rfl rfl aG (JB (f:=str) (xs:=x6.2.2) he8) rfl rfl rfl)) ?_
  refine dk 1 [44] [B (!(e7==e8))] ?_
  refine de 227 rfl rfl ?_
  obtain⟨y9,hy9,hy91,hy92⟩:=bL h
  have j9:∀u9,y9=.inr u9→Run vm 1 Q (.blk 3::.code (cR (cR EO))::.lp EO::.blk 2::K) (sO 61 [(0,.hs 2 0 [] 1 0 (u9.2.map str).length),(3,I u9.1),(4,.hs 2 0 [] 1 (0+Int.toNat x2) (Int.toNat (len s_2) - Int.toNat x2)),(5,I x6.2.1)] [none,some ⟨0,1,u9.2.map str⟩] 3):=by
   intro u9 hu
   replace h:=hy92 u9 hu
   refine cq 6 [5] [I (aj (x6.2.1+1))] 51 ?_
   refine cZ ?_
   exact rg [0,3,4,5] [52,2] (ih _ _ h hr hn :)
  have r9:∀r',y9=.inl r'→∀st,B4 s_2 r' st→Q st:=fun r' e st hq=>hr r' (hy91 r' e) st hq
  replace h:=hy9
  refine sq h ?_ ?_<;>intro h
  ·refine cq 6 [45,46,47,48] [.hs 2 0 [] 1 0 (x6.2.2.map str).length,I x6.1,.hs 2 0 [] 1 (0+Int.toNat x2) (Int.toNat (len s_2) - Int.toNat x2),I x6.2.1] 291 ?_
   obtain⟨e10,he10,h⟩:=bS h
   refine oq 307 (.hp 2 0 [] 1 ((0+Int.toNat x2)+Int.toNat x6.2.1) 0) rfl (ao rfl rfl rfl (Nr (xs:=x6.2.2) rfl rfl he10)) ?_
   refine oq 323 (str e10) rfl (cF rfl (iR (path:=[]) rfl rfl rfl aG (JB (f:=str) (xs:=x6.2.2) he10) rfl rfl rfl)) ?_
   obtain⟨e11,he11,h⟩:=bS h
   refine oq 339 (.hp 2 0 [] 1 (0+Int.toNat x6.1) 0) rfl (ao rfl rfl rfl (dJ (f:=str) (xs:=x6.2.2) rfl rfl rfl he11)) ?_
   refine o0 355 rfl rfl (fw rfl rfl (eq (path:=[]) (pl:=true) (e':=str e10) (es2':=(cS x6.2.2 x6.1 e10).map str) rfl (bq rfl) rfl rfl rfl aG (cT (f:=str) (xs:=x6.2.2) he11) rfl rfl rfl (jz (f:=str) (xs:=x6.2.2) (y:=e10)) d7 0 rfl)) ?_
   try rw[←gZ (f:=str) (xs:=x6.2.2) (i:=x6.1) (z:=e10)]
   refine cq 6 [3] [I (aj (x6.1+1))] 403 ?_
   exact rg [0,3,4,5] [404,2] (j9 _ (ap h) :)
  ·refine aq 1 ?_
   exact rg [0,3,4,5] [228,2] (j9 _ (ap h) :)
 ·refine aq 1 ?_
  exact rg [0,3] [68,2] (hn _ (ap h) :) (hk:=hK)
theorem KE (s_2:List ac):cD vm 1 (B4 s_2) (cL (cL (cR (cL (cR (cR Ik)))))) 0 (qa s_2) (fun u=>(sO 61 [(0,.hs 2 0 [] 1 0 (u.map str).length)] [none,some ⟨0,1,u.map str⟩] 3)) fun x2=>(sO 61 [(0,.hs 2 0 [] 1 0 (s_2.map str).length),(3,I x2)] [none,some ⟨0,1,s_2.map str⟩] 3):=ey (xZ s_2) fun {Q K} hK self ih x2 y h hr hn=>by
 unfold kG at h
 refine cq 5 [10,11] [I x2,.hs 2 0 [] 1 0 (s_2.map str).length] 35 ?_
 refine oq 51 (I (len s_2)) rfl (bG rfl rfl rfl (gS (f:=str) (xs:=s_2) rfl rfl)) ?_
 refine cq 2 [13] [B (decide (x2<(len s_2)))] 67 ?_
 refine sq h ?_ ?_<;>intro h
 ·refine aq 1 ?_
  refine aq 3 ?_
  refine fa [0,0,3,7,0,0,32,112,240,511] rfl (by decide +kernel) ?_
  refine dk 2 [17,16] [I x2,.hs 2 0 [] 1 0 (s_2.map str).length] ?_
  obtain⟨e3,he3,h⟩:=bS h
  refine dq [2] [] (.hp 2 0 [] 1 (0+Int.toNat x2) 0) rfl (ao rfl rfl rfl (dJ (f:=str) (xs:=s_2) rfl rfl rfl he3)) ?_
  refine dq [2] [] (str e3) rfl (cF rfl (iR (path:=[]) rfl rfl rfl aG (cT (f:=str) (xs:=s_2) he3) rfl rfl rfl)) ?_
  refine dk 3 [22,21,20] [I (aj (x2 - 1)),I x2,.hs 2 0 [] 1 0 (s_2.map str).length] ?_
  obtain⟨e4,he4,h⟩:=bS h
  refine dq [2] [] (.hp 2 0 [] 1 (0+Int.toNat (aj (x2 - 1))) 0) rfl (ao rfl rfl rfl (dJ (f:=str) (xs:=s_2) rfl rfl rfl he4)) ?_
  refine dq [2] [] (str e4) rfl (cF rfl (iR (path:=[]) rfl rfl rfl aG (cT (f:=str) (xs:=s_2) he4) rfl rfl rfl)) ?_
  refine dk 1 [25] [B (e3==e4)] ?_
  refine de 227 rfl rfl ?_
  refine sq h ?_ ?_<;>intro h
  ·refine cq 4 [26,27] [.hs 2 0 [] 1 0 (s_2.map str).length,I x2] 259 ?_
   obtain⟨s5,hs5,h⟩:=bS h
   refine oq 275 (.hs 2 0 [] 1 (0+Int.toNat x2) (Int.toNat (len s_2) - Int.toNat x2)) rfl (io rfl rfl rfl rfl (pn (f:=str) (xs:=s_2) rfl rfl rfl rfl (M4 rfl) hs5)) ?_
   refine cq 8 [4,5] [.hs 2 0 [] 1 (0+Int.toNat x2) (Int.toNat (len s_2) - Int.toNat x2),I (1)] 307 ?_
   obtain⟨y15,hy15,hy151,hy152⟩:=bL h
   refine bZ rfl ?_
   refine rg [0,3,4,5] [308,2] (KF s_2 x2 rfl (x2,1,s_2) _ hy15 (fun r' e st hq=>hr r' (hy151 r' e) st hq) fun u15 hu=>?_)
   replace h:=hy152 u15 hu
   refine cq 4 [54,55] [.hs 2 0 [] 1 0 (u15.2.map str).length,I u15.1] 35 ?_
   obtain⟨s16,hs16,h⟩:=bS h
   refine oq 51 (.hs 2 0 [] 1 (0+Int.toNat u15.1) (Int.toNat (len u15.2) - Int.toNat u15.1)) rfl (io rfl rfl rfl rfl (pn (f:=str) (xs:=u15.2) rfl rfl rfl rfl (M4 rfl) hs16)) ?_
   obtain⟨k17,hk17,h⟩:=bS h
   refine o0 67 rfl rfl (Vb rfl rfl (X0 (f:=str) (xs:=u15.2) (z0:=[]) rfl rfl rfl rfl (by decide) mu hk17)) ?_
   try rw[show (u15.2.map str).length=(k17.map str).length from U7 hk17]
   refine cq 5 [57,58] [.hs 2 0 [] 1 0 (k17.map str).length,I u15.1] 99 ?_
   obtain⟨s18,hs18,h⟩:=bS h
   refine oq 115 (.hs 2 0 [] 1 (0+Int.toNat (0)) (Int.toNat u15.1 - Int.toNat (0))) rfl (io rfl rfl rfl rfl (pn (f:=str) (xs:=k17) rfl rfl rfl rfl rfl hs18)) ?_
   refine cq 2 [2] [.hs 2 0 [] 1 (0+Int.toNat (0)) (Int.toNat u15.1 - Int.toNat (0))] 131 ?_
   obtain⟨p19,hp19,h⟩:=bS h
   exact bR rfl (hr _ (ap h) _ ⟨_,fin (vs:=[.hs 2 0 [] 1 (0+Int.toNat (0)) (Int.toNat u15.1 - Int.toNat (0))]) rfl (ec (fe rfl (P3 (path:=[]) (f:=str) (xs:=k17) rfl rfl aG hp19 rfl lO)) dZ) rfl (kr rfl (jb rfl) eH),mq eE⟩)
  ·refine aq 1 ?_
   refine cq 6 [3] [I (aj (x2+1))] 275 ?_
   refine cZ ?_
   exact rg [0,3] [276,2] (ih _ _ h hr hn :)
 ·refine aq 1 ?_
  exact rg [0] [68,2] (hn _ (ap h) :) (hk:=hK)
theorem RJ (s_2:List ac)(r:(List ac))(h:zP s_2=some r):bT vm Tryz.f97 [true] 1 (B3 s_2) (B5 r):=by
 show Run _ _ (B4 s_2 r) [.code Ik] _
 refine rI 61 [(0,.hs 1 0 [] 1 0 (s_2.map str).length)] [(1,some ⟨0,1,s_2.map str⟩)] 2 ?_
 unfold zP at h
 refine cq 8 [6] [.hs 1 0 [] 1 0 (s_2.map str).length] 34 ?_
 refine oq 50 (I (len s_2)) rfl (bG rfl rfl rfl (gS (f:=str) (xs:=s_2) rfl rfl)) ?_
 refine cq 2 [8] [B (decide ((len s_2)<2))] 66 ?_
 refine sq h ?_ ?_<;>intro h
 ·refine cq 5 [2] [.hs 1 0 [] 1 0 (s_2.map str).length] 98 ?_
  obtain rfl:=sI h
  exact bR rfl ⟨_,fin (vs:=[.hs 1 0 [] 1 0 (s_2.map str).length]) rfl (ec (fe rfl (dt rfl rfl)) dZ) rfl (kr rfl (jb rfl) eH),mq eE⟩
 ·refine aq 1 ?_
  refine cq 6 [3] [I (1)] 82 ?_
  obtain⟨y20,hy20,hy201,hy202⟩:=bJ h
  refine bZ rfl ?_
  refine rg [0,3] [83,1] (KE s_2 rfl 1 _ hy20 (fun r' e st hq=>by rw[hy201 r' e] at hq;exact hq) fun u20 hu=>?_)
  replace h:=hy202 u20 hu
  refine cq 5 [2] [.hs 2 0 [] 1 0 (u20.map str).length] 35 ?_
  obtain rfl:=sI h
  exact bR rfl ⟨_,fin (vs:=[.hs 2 0 [] 1 0 (u20.map str).length]) rfl (ec (fe rfl (dt rfl rfl)) dZ) rfl (kr rfl (jb rfl) eH),mq eE⟩
theorem OW {G:cO}:cM G 97 zQ:=gT 1 1 bX cY Tryz.func97 (fun a r h=>RJ a r h)
def Hw:(List ac)→List V:=oA (pG 1 str)
def Hx (r:(List ac)):V×List V:=(.usl 1 (r.map str),[.dead])
noncomputable def xd :=bC [true] Hw Hx fun x=>DK x
theorem MM {ju:List ac}{r}(h:DK ju=some r):xd.F (Hw ju)=some (Hx r):=aQ (aR (fZ bI)) h
noncomputable def XO :=aK Tryz.f68
noncomputable def TQ :=cX [(96,uL),(97,zQ)]
def XN (x:(List ac))(r:(List ac)):St→Prop:=QF TQ Tryz.f68 [true] (Hw x) (Hx r)
theorem UM (ju:List ac)(r:(List ac))(h:DK ju=some r):bT TQ Tryz.f68 [true] 1 (Hw ju) (Hx r):=by
 show Run _ _ (XN ju r) [.code XO] _
 refine rI 7 [(0,.hs 1 0 [] 1 0 (ju.map str).length)] [(1,some ⟨0,1,ju.map str⟩)] 2 ?_
 unfold DK at h
 refine cq 7 [3] [.hs 1 0 [] 1 0 (ju.map str).length] 34 ?_
 obtain⟨r2,hr2,h⟩:=bS h
 obtain⟨g3,h⟩:=gG h
 refine oq 50 (.tup []) rfl (aW rfl rfl (bv rfl rfl rfl (fq (fb rfl (dH (path:=[]) rfl rfl aG rfl)) cy) (Tz hr2) (.inr rfl) (fU rfl rfl rfl rfl cI) rfl rfl rfl)) ?_
 try rw[kj (f:=str) (xs:=ju) (ys:=r2) g3]
 refine cq 4 [5] [.hs 1 0 [] 1 0 (r2.map str).length] 66 ?_
 obtain⟨r4,hr4,h⟩:=bS h
 refine oq 82 (.hs 66 0 [] 1 0 (r4.map str).length) rfl (aW rfl rfl (bv rfl rfl rfl (fq (fb rfl (dH (path:=[]) rfl rfl aG rfl)) cy) (Wg hr4) (.inr rfl) (fU rfl rfl rfl eu cI) rfl rfl rfl)) ?_
 refine cq 2 [2] [.hs 66 0 [] 1 0 (r4.map str).length] 98 ?_
 obtain rfl:=sI h
 exact bR rfl ⟨_,fin (vs:=[.hs 66 0 [] 1 0 (r4.map str).length]) rfl (ec (fe rfl (dt rfl rfl)) dZ) rfl (kr rfl (jb rfl) eH),mq eE⟩
theorem I0 {G:cO}:cM G 68 xd:=gT 1 1 (aU Lp (aU OW bX)) cY Tryz.func68 (fun a r h=>UM a r h)
def Hk:Contract→List V:=oA aO
def Hl (r:(List ac)):V×List V:=(.usl 1 (r.map str),[])
noncomputable def E7 :=bC [false] Hk Hl fun x=>IV x
theorem XF {c_1:Contract}{r}(h:IV c_1=some r):E7.F (Hk c_1)=some (Hl r):=aQ (aR bN) h
noncomputable def TM :=aK Tryz.f65
noncomputable def MI :=cX [(69,qh),(68,xd)]
def TL (x:Contract)(r:(List ac)):St→Prop:=QF MI Tryz.f65 [false] (Hk x) (Hl r)
theorem MJ (c_1:Contract):cD MI 0 (TL c_1) (cL (cL (cR (cL (cR (cR TM)))))) 0 (o8 c_1) (fun u=>(sT 25 [(3,.hs 1 0 [] 1 0 (u.map str).length)] [⟨0,1,u.map str⟩] 2)) fun x2=>(sT 25 [(3,.hs 1 0 [] 1 0 (x2.2.map str).length),(8,.isl false (c_1.Clauses.map ar)),(9,I (len c_1.Clauses)),(10,I x2.1)] [⟨0,1,x2.2.map str⟩] 2):=ey (DI c_1) fun {Q K} hK self ih x2 y h hr hn=>by
 unfold mf at h
 refine cq 5 [11] [B (decide (x2.1<(len c_1.Clauses)))] 18 ?_
 refine sq h ?_ ?_<;>intro h
 ·refine aq 1 ?_
  refine aq 4 ?_
  obtain⟨e3,he3,h⟩:=bS h
  refine oq 34 (.iptr (al e3) 0) rfl (ao rfl rfl rfl (bH rfl rfl rfl rfl he3)) ?_
  refine ck 2 [5,13] [] [50] [] [.hp 50 0 [] 12 0 0,al e3] [some ⟨0,12,[.agg [str ([]),I (0),I (0),str ([]),I (0),I (0),I (0),str ([]),I (0),.isl true [],I (0),str ([])]]⟩] 66 (by kernel_rfl) ?_
  refine fK 50 [.agg [str ([]),I (0),I (0),str ([]),I (0),I (0),I (0),str ([]),I (0),.usl 4 (([]).map ae),I (0),str ([])]] rfl rfl (aD (gI (aD (.refl _) (aD (.refl _) (aD (.refl _) (aD (.refl _) (aD (.refl _) (aD (.refl _) (aD (.refl _) (aD (.refl _) (aD (.refl _) (aD (.nil _) (aD (.refl _) (aD (.refl _) eD))))))))))))) eD) ?_
  refine ck 2 [] [] [50] [] [] [some ⟨2,12,[al e3]⟩] 82 (by kernel_rfl) ?_
  refine fa [0,1,0,0,8,24,60,127,255] rfl (by decide +kernel) ?_
  refine dq [50] [] (.hp 50 0 [] 12 0 6) rfl (dM rfl rfl rfl) ?_
  refine dq [50] [] (aa e3.When) rfl (cF rfl rfl) ?_
  refine dk 1 [16] [.hs 1 0 [] 1 0 (x2.2.map str).length] ?_
  refine dq [50] [] (.hp 50 0 [] 12 0 3) rfl (dM rfl rfl rfl) ?_
  refine dq [50] [] (str e3.Action) rfl (cF rfl rfl) ?_
  refine dq [] [] (.hs 162 0 [] 1 0 1) rfl (bW rfl (fh (f:=I) (xs:=[]) (z:=str ([])) (es:=[str e3.Action]) (ws:=[str e3.Action]) rfl rfl rfl (by decide) rfl (bz rfl) rfl)) ?_
  obtain⟨a4,ha4,h⟩:=bS h
  refine dq [1,162] [1] (.hs 178 0 [] 1 0 (a4.map str).length) rfl (fW rfl rfl rfl rfl rfl (iL (path:=[]) (f:=str) (xs:=x2.2) (ys:=[e3.Action]) rfl rfl (kq rfl rfl rfl) rfl rfl rfl aG rfl (by decide) iX ha4 rfl lO)) ?_ (uK rfl (tZ (path:=[]) (f:=str) (xs:=[e3.Action]) rfl rfl aG mu rfl))
  obtain⟨r5,hr5,h⟩:=bS h
  refine dq [178] [178] (.hs 194 0 [] 1 0 (r5.map str).length) rfl (aW rfl rfl (bv rfl rfl rfl (bm (bK rfl) (fq (fb rfl (dH (path:=[]) rfl rfl aG rfl)) cy)) (xa hr5) (.inr rfl) (fU rfl rfl rfl eu cI) rfl rfl rfl)) ?_ (dY rfl rfl rfl rfl (bm (bK rfl) (fq (fb rfl (dH (path:=[]) rfl rfl aG rfl)) cy)) (xa hr5) (.inr rfl) rfl)
  refine dk 1 [3] [.hs 194 0 [] 1 0 (r5.map str).length] ?_
  refine de 226 rfl rfl ?_
  refine cq 5 [10] [I (aj (x2.1+1))] 258 ?_
  refine cZ ?_
  exact rf [3,8,9,10] [194] (ih _ _ h hr hn :)
 ·refine aq 1 ?_
  exact rf [3] [1] (hn _ (ap h) :) (hk:=hK)
theorem UH (c_1:Contract)(r:(List ac))(h:IV c_1=some r):bT MI Tryz.f65 [false] 0 (Hk c_1) (Hl r):=by
 show Run _ _ (TL c_1 r) [.code TM] _
 refine rI 25 [(0,ak c_1)] [] 1 ?_
 unfold IV at h
 refine ck 7 [1] [] [1] [] [.hp 1 0 [] 2 0 0] [some ⟨0,2,[ak c_1]⟩] 33 (by kernel_rfl) ?_
 refine oq 49 (.hs 33 0 [] 1 0 0) rfl (bW rfl (fh (f:=I) (xs:=[]) (z:=str ([])) (es:=[]) (ws:=[]) rfl rfl rfl (by decide) rfl (bz rfl) rfl)) ?_
 refine cq 7 [3,8] [.hs 33 0 [] 1 0 0,.isl false (c_1.Clauses.map ar)] 97 ?_
 refine oq 113 (I (len c_1.Clauses)) rfl (bG rfl rfl rfl (cH rfl)) ?_
 refine cq 3 [10] [I (0)] 129 ?_
 obtain⟨y6,hy6,hy61,hy62⟩:=bJ h
 refine bZ rfl ?_
 refine rf [3,8,9,10] [33] (MJ c_1 rfl (0,[]) _ hy6 (fun r' e st hq=>by rw[hy61 r' e] at hq;exact hq) fun u6 hu=>?_)
 replace h:=hy62 u6 hu
 refine cq 3 [23] [.hs 1 0 [] 1 0 (u6.map str).length] 18 ?_
 obtain⟨r7,hr7,h⟩:=bS h
 refine oq 34 (.hs 18 0 [] 1 0 (r7.map str).length) rfl (aW rfl rfl (bv rfl rfl rfl (fq (fb rfl (dH (path:=[]) rfl rfl aG rfl)) cy) (MM hr7) (.inr rfl) (fU rfl rfl rfl eu cI) rfl rfl rfl)) ?_
 refine cq 2 [2] [.hs 18 0 [] 1 0 (r7.map str).length] 50 ?_
 obtain rfl:=sI h
 exact bR rfl ⟨_,fin (vs:=[.hs 18 0 [] 1 0 (r7.map str).length]) rfl (ec (fe rfl (dt rfl rfl)) dZ) rfl (ed eH),eE⟩
theorem Sv {G:cO}:cM G 65 E7:=gT 1 0 (aU IR (aU I0 bX)) cY Tryz.func65 (fun a r h=>UH a r h)
def GY:Contract→List V:=oA aO
def G1 (r:Bool):V×List V:=(B r,[])
noncomputable def EN :=bC [false] GY G1 fun x=>Ij x
theorem Xw {c_1:Contract}{r}(h:Ij c_1=some r):EN.F (GY c_1)=some (G1 r):=aQ (aR bN) h
noncomputable def G2 :=aK Tryz.f34
noncomputable def GZ :=cX [(62,EZ),(64,E8),(65,E7),(63,mP)]
def B1 (x:Contract)(r:Bool):St→Prop:=QF GZ Tryz.f34 [false] (GY x) (G1 r)
theorem Mt (c_1:Contract):cD GZ 0 (B1 c_1) (cL (cL (cR (cL (cR (cR G2)))))) 0 (ne c_1) (fun u=>(sT 30 [(1,.hp 1 0 [] 2 0 0)] [⟨0,2,[ak c_1]⟩] 2)) fun x4=>(sT 30 [(1,.hp 1 0 [] 2 0 0),(17,I (len c_1.Clauses)),(18,I x4)] [⟨0,2,[ak c_1]⟩] 2):=ey (B2 c_1) fun {Q K} hK self ih x4 y h hr hn=>by
 unfold mb at h
 refine cq 5 [19] [B (decide (x4<(len c_1.Clauses)))] 18 ?_
 refine sq h ?_ ?_<;>intro h
 ·refine aq 1 ?_
  refine cq 11 [21,22] [ak c_1,I x4] 82 ?_
  obtain⟨r5,hr5,h⟩:=bS h
  refine oq 98 (B r5) rfl (cP (XG hr5)) ?_
  refine cq 2 [24] [B (!r5)] 114 ?_
  refine sq h ?_ ?_<;>intro h
  ·refine cq 4 [2] [B false] 130 ?_
   exact bR rfl (hr _ (ap h) _ (qp [B false]))
  ·refine aq 1 ?_
   refine cq 5 [18] [I (aj (x4+1))] 146 ?_
   refine cZ ?_
   exact rf [1,17,18] [1] (ih _ _ h hr hn :)
 ·refine aq 1 ?_
  exact rf [1] [1] (hn _ (ap h) :) (hk:=hK)
theorem Uq (c_1:Contract)(r:Bool)(h:Ij c_1=some r):bT GZ Tryz.f34 [false] 0 (GY c_1) (G1 r):=by
 show Run _ _ (B1 c_1 r) [.code G2] _
 refine rI 30 [(0,ak c_1)] [] 1 ?_
 unfold Ij at h
 refine ck 10 [1,5] [] [1] [] [.hp 1 0 [] 2 0 0,.isl false (c_1.Parties.map str)] [some ⟨0,2,[ak c_1]⟩] 65 (by kernel_rfl) ?_
 obtain⟨r2,hr2,h⟩:=bS h
 refine oq 81 (B r2) rfl (cP (Xx hr2)) ?_
 refine cq 2 [8] [B (!r2)] 113 ?_
 obtain⟨y3,hy3,hy31,hy32⟩:=bJ h
 have j3:∀u3,y3=.inr u3→Run GZ 0 (B1 c_1 r) (.code (cR (cL (cR G2)))::.code (cR (cR G2))::[]) (sT 30 [(1,.hp 1 0 [] 2 0 0),(14,B u3)] [⟨0,2,[ak c_1]⟩] 2):=by
  intro u3 hu
  replace h:=hy32 u3 hu
  refine sq h ?_ ?_<;>intro h
  ·refine cq 4 [2] [B false] 18 ?_
   obtain rfl:=sI h
   exact rP [B false]
  ·refine aq 1 ?_
   refine cq 5 [16] [.isl false (c_1.Clauses.map ar)] 34 ?_
   refine oq 50 (I (len c_1.Clauses)) rfl (bG rfl rfl rfl (cH rfl)) ?_
   refine cq 3 [18] [I (0)] 66 ?_
   obtain⟨y6,hy6,hy61,hy62⟩:=bJ h
   refine bZ rfl ?_
   refine rf [1,17,18] [1] (Mt c_1 rfl 0 _ hy6 (fun r' e st hq=>by rw[hy61 r' e] at hq;exact hq) fun u6 hu=>?_)
   replace h:=hy62 u6 hu
   refine cq 3 [26] [ak c_1] 18 ?_
   obtain⟨r7,hr7,h⟩:=bS h
   refine oq 34 (.hs 18 0 [] 1 0 (r7.map str).length) rfl (cP (XF hr7)) ?_
   refine oq 50 (I (len r7)) rfl (bG rfl rfl rfl (gS (f:=str) (xs:=r7) rfl rfl)) ?_
   refine cq 3 [2] [B (decide ((len r7)≤16))] 82 ?_
   obtain rfl:=sI h
   exact rP [B (decide ((len r7)≤16))]
 have r3:∀r',y3=.inl r'→∀st,B1 c_1 r' st→(B1 c_1 r) st:=fun r' e st hq=>by rw[hy31 r' e] at hq;exact hq
 replace h:=hy3
 refine sp 8 h rfl ?_ ?_<;>intro h
 ·refine cq 7 [14] [B true] 209 ?_
  exact rf [1,14] [1] (j3 _ (ap h) :)
 ·refine cq 2 [10] [.isl false (c_1.Clauses.map ar)] 145 ?_
  refine oy 161 (I (len c_1.Clauses)) rfl (bG rfl rfl rfl (cH rfl)) ?_
  obtain⟨r8,hr8,h⟩:=bS h
  refine oy 177 (B r8) rfl (cP (no hr8)) ?_
  refine cq 3 [14] [B (!r8)] 209 ?_
  exact rf [1,14] [1] (j3 _ (ap h) :)
theorem RI {G:cO}:cM G 34 EN:=gT 1 0 (aU So (aU Sw (aU Sv (aU oo bX)))) cY Tryz.func34 (fun a r h=>Uq a r h)
def Ht:(Int×Contract×Int×Clause)→List V:=cA I (cA (fun x:Contract=>.iptr (aO x) 0) (cA (fun x:Int=>.iptr (I x) 0) (oA (fun x:Clause=>.iptr (ar x) 0))))
def Hv (r:Bool):V×List V:=(B r,[])
noncomputable def Fb :=bC [false,false,false,false] Ht Hv fun x=>LK x.1 x.2.1 x.2.2.1 x.2.2.2
theorem XM {i_1:Int}{a_2:Contract}{a_3:Int}{a_4:Clause}{r}(h:LK i_1 a_2 a_3 a_4=some r):Fb.F (Ht (i_1,a_2,a_3,a_4))=some (Hv r):=aQ (bB cu (bB (un bN) (bB (un cu) (aR (un cV))))) h
noncomputable def ML :=aK Tryz.f67
noncomputable def Hu :=cX []
def MK (x:Int×Contract×Int×Clause)(r:Bool):St→Prop:=QF Hu Tryz.f67 [false,false,false,false] (Ht x) (Hv r)
theorem UL (i_1:Int)(a_2:Contract)(a_3:Int)(a_4:Clause)(r:Bool)(h:LK i_1 a_2 a_3 a_4=some r):bT Hu Tryz.f67 [false,false,false,false] 0 (Ht (i_1,a_2,a_3,a_4)) (Hv r):=by
 show Run _ _ (MK (i_1,a_2,a_3,a_4) r) [.code ML] _
 refine rI 30 [(0,I i_1),(1,.iptr (ak a_2) 0),(2,.iptr (I a_3) 0),(3,.iptr (al a_4) 0)] [] 1 ?_
 unfold LK at h
 refine cq 9 [8,9] [.isl false (a_2.Clauses.map ar),I i_1] 65 ?_
 obtain⟨e5,he5,h⟩:=bS h
 refine oq 81 (.iptr (al e5) 0) rfl (ao rfl rfl rfl (bH rfl rfl rfl rfl he5)) ?_
 refine ck 2 [6,11] [] [97] [] [.hp 97 0 [] 12 0 0,al e5] [some ⟨0,12,[.agg [str ([]),I (0),I (0),str ([]),I (0),I (0),I (0),str ([]),I (0),.isl true [],I (0),str ([])]]⟩] 113 (by kernel_rfl) ?_
 refine fK 97 [.agg [str ([]),I (0),I (0),str ([]),I (0),I (0),I (0),str ([]),I (0),.usl 4 (([]).map ae),I (0),str ([])]] rfl rfl (aD (gI (aD (.refl _) (aD (.refl _) (aD (.refl _) (aD (.refl _) (aD (.refl _) (aD (.refl _) (aD (.refl _) (aD (.refl _) (aD (.refl _) (aD (.nil _) (aD (.refl _) (aD (.refl _) eD))))))))))))) eD) ?_
 refine ck 9 [16] [] [97] [] [B (e5.Kind==a_3)] [some ⟨2,12,[al e5]⟩] 209 (by kernel_rfl) ?_
 obtain⟨u6,hu6,h⟩:=lJ h
 have j6:Run Hu 0 (MK (i_1,a_2,a_3,a_4) r) (.code (cR (cR (cR ML)))::[]) (sT 30 [(5,B u6)] [] 1):=by
  obtain rfl:=sI h
  exact rP [B u6]
 replace h:=hu6
 clear hu6
 refine sp 16 h rfl ?_ ?_<;>intro h
 ·refine cq 7 [23] [B (e5.Party==a_4.Party)] 321 ?_
  obtain⟨u7,hu7,h⟩:=lJ h
  have j7:Run Hu 0 (MK (i_1,a_2,a_3,a_4) r) (.code (cR (cR (cR ML)))::[]) (sT 30 [(5,B u7)] [] 1):=by
   subst h
   exact rf [5] [] (j6 :)
  replace h:=hu7
  clear hu7
  refine sp 23 h rfl ?_ ?_<;>intro h
  ·refine cq 8 [5] [B (e5.Action==a_4.Action)] 433 ?_
   subst h
   exact rf [5] [] (j7 :)
  ·refine cq 8 [5] [B false] 433 ?_
   subst h
   exact rf [5] [] (j7 :)
 ·refine cq 15 [5] [B false] 433 ?_
  subst h
  exact rf [5] [] (j6 :)
theorem Sz {G:cO}:cM G 67 Fb:=gT 4 0 bX cY Tryz.func67 (fun a r h=>UL a.1 a.2.1 a.2.2.1 a.2.2.2 r h)
def Hg:(Contract×(Contract×Int×Clause))→List V:=cA aO (oA (fun x:Contract×Int×Clause=>(.fn 67 [.iptr (aO x.1) 0,.iptr (I x.2.1) 0,.iptr (ar x.2.2) 0]:V)))
def Hi (r:(List Int)):V×List V:=(.usl 1 (r.map I),[])
noncomputable def E4 :=bC [false,false] Hg Hi fun x=>LJ x.1 x.2
theorem XD {c_1:Contract}{cG:Contract×Int×Clause}{r}(h:LJ c_1 cG=some r):E4.F (Hg (c_1,cG))=some (Hi r):=aQ (bB bN (aR (Vg bN cu cV))) h
noncomputable def TJ :=aK Tryz.f66
noncomputable abbrev IU :=cL (cL (cR (cL (cR (cR TJ)))))
noncomputable def Hh :=cX [(67,Fb)]
def MF (x:Contract×(Contract×Int×Clause))(r:(List Int)):St→Prop:=QF Hh Tryz.f66 [false,false] (Hg x) (Hi r)
theorem MG (c_1:Contract)(cG:Contract×Int×Clause):cD Hh 0 (MF (c_1,cG)) IU 0 (oZ c_1 cG) (fun u=>(sT 23 [(5,.hs 1 0 [] 1 0 (u.map I).length)] [⟨0,1,u.map I⟩] 2)) fun x3=>(sT 23 [(1,.fn 67 [.iptr (ak cG.1) 0,.iptr (I cG.2.1) 0,.iptr (al cG.2.2) 0]),(5,.hs 1 0 [] 1 0 (x3.2.map I).length),(10,I (len c_1.Clauses)),(11,I x3.1)] [⟨0,1,x3.2.map I⟩] 2):=ey (DB c_1 cG) fun {Q K} hK self ih x3 y h hr hn=>by
 unfold me at h
 refine cq 5 [12] [B (decide (x3.1<(len c_1.Clauses)))] 18 ?_
 refine sq h ?_ ?_<;>intro h
 ·refine aq 1 ?_
  refine cq 11 [6,14,15] [I x3.1,.fn 67 [.iptr (ak cG.1) 0,.iptr (I cG.2.1) 0,.iptr (al cG.2.2) 0],I x3.1] 82 ?_
  obtain⟨r4,hr4,h⟩:=bS h
  refine oq 98 (B r4) rfl (cP (XM hr4)) ?_
  refine aq 1 ?_
  obtain⟨y5,hy5,hy51,hy52⟩:=bL h
  have j5:∀u5,y5=.inr u5→Run Hh 0 Q (.blk 1::.code (cR (cR (cR IU)))::.lp IU::.blk 0::K) (sT 23 [(1,.fn 67 [.iptr (ak cG.1) 0,.iptr (I cG.2.1) 0,.iptr (al cG.2.2) 0]),(5,.hs 1 0 [] 1 0 (u5.map I).length),(10,I (len c_1.Clauses)),(11,I x3.1)] [⟨0,1,u5.map I⟩] 2):=by
   intro u5 hu
   replace h:=hy52 u5 hu
   refine cq 5 [11] [I (aj (x3.1+1))] 34 ?_
   refine cZ ?_
   exact rf [1,5,10,11] [1] (ih _ _ h hr hn :)
  have r5:∀r',y5=.inl r'→∀st,MF (c_1,cG) r' st→Q st:=fun r' e st hq=>hr r' (hy51 r' e) st hq
  replace h:=hy5
  refine sq h ?_ ?_<;>intro h
  ·refine cq 3 [17,18] [.hs 1 0 [] 1 0 (x3.2.map I).length,I x3.1] 130 ?_
   refine oq 146 (.hs 130 0 [] 1 0 1) rfl (bW rfl (fh (f:=I) (xs:=[]) (z:=I (0)) (es:=[I x3.1]) (ws:=[I x3.1]) rfl rfl rfl (by decide) rfl (bz rfl) rfl)) ?_
   obtain⟨a6,ha6,h⟩:=bS h
   refine oq 162 (.hs 146 0 [] 1 0 (a6.map I).length) rfl (fW rfl rfl rfl rfl rfl (iL (path:=[]) (f:=I) (xs:=x3.2) (ys:=[x3.1]) rfl rfl (kq rfl rfl rfl) rfl rfl rfl aG rfl (by decide) tg ha6 rfl lO)) ?_
   refine cq 2 [5] [.hs 146 0 [] 1 0 (a6.map I).length] 178 ?_
   exact rf [1,5,10,11] [146] (j5 _ (ap h) :)
  ·refine aq 1 ?_
   exact rf [1,5,10,11] [1] (j5 _ (ap h) :)
 ·refine aq 1 ?_
  exact rf [5] [1] (hn _ (ap h) :) (hk:=hK)
theorem UC (c_1:Contract)(cG:Contract×Int×Clause)(r:(List Int))(h:LJ c_1 cG=some r):bT Hh Tryz.f66 [false,false] 0 (Hg (c_1,cG)) (Hi r):=by
 show Run _ _ (MF (c_1,cG) r) [.code TJ] _
 refine rI 23 [(0,ak c_1),(1,.fn 67 [.iptr (ak cG.1) 0,.iptr (I cG.2.1) 0,.iptr (al cG.2.2) 0])] [] 1 ?_
 unfold LJ at h
 refine ck 7 [2] [] [1] [] [.hp 1 0 [] 2 0 0] [some ⟨0,2,[ak c_1]⟩] 33 (by kernel_rfl) ?_
 refine oq 49 (.hs 33 0 [] 1 0 0) rfl (bW rfl (fh (f:=I) (xs:=[]) (z:=I (0)) (es:=[]) (ws:=[]) rfl rfl rfl (by decide) rfl (bz rfl) rfl)) ?_
 refine cq 7 [5,9] [.hs 33 0 [] 1 0 0,.isl false (c_1.Clauses.map ar)] 97 ?_
 refine oq 113 (I (len c_1.Clauses)) rfl (bG rfl rfl rfl (cH rfl)) ?_
 refine cq 3 [11] [I (0)] 129 ?_
 obtain⟨y7,hy7,hy71,hy72⟩:=bJ h
 refine bZ rfl ?_
 refine rf [1,5,10,11] [33] (MG c_1 cG rfl (0,[]) _ hy7 (fun r' e st hq=>by rw[hy71 r' e] at hq;exact hq) fun u7 hu=>?_)
 replace h:=hy72 u7 hu
 refine cq 5 [4] [.hs 1 0 [] 1 0 (u7.map I).length] 34 ?_
 obtain rfl:=sI h
 exact bR rfl ⟨_,fin (vs:=[.hs 1 0 [] 1 0 (u7.map I).length]) rfl (ec (fe rfl (dt rfl rfl)) dZ) rfl (ed (ed eH)),eE⟩
theorem Sr {G:cO}:cM G 66 E4:=gT 2 0 (aU Sz bX) cY Tryz.func66 (fun a r h=>UC a.1 a.2 r h)
def Hr:(Contract×Clause×Int)→List V:=cA aO (cA ar (oA I))
def Hs (r:(List Int)):V×List V:=(.usl 1 (r.map I),[])
noncomputable def Fa :=bC [false,false,false] Hr Hs fun x=>IZ x.1 x.2.1 x.2.2
theorem XJ {c_1:Contract}{x_2:Clause}{lT:Int}{r}(h:IZ c_1 x_2 lT=some r):Fa.F (Hr (c_1,x_2,lT))=some (Hs r):=aQ (bB bN (bB cV (aR cu))) h
noncomputable def XL :=aK Tryz.f35
noncomputable def TP :=cX [(66,E4)]
def XK (x:Contract×Clause×Int)(r:(List Int)):St→Prop:=QF TP Tryz.f35 [false,false,false] (Hr x) (Hs r)
theorem UK (c_1:Contract)(x_2:Clause)(lT:Int)(r:(List Int))(h:IZ c_1 x_2 lT=some r):bT TP Tryz.f35 [false,false,false] 0 (Hr (c_1,x_2,lT)) (Hs r):=by
 show Run _ _ (XK (c_1,x_2,lT) r) [.code XL] _
 refine rI 10 [(0,ak c_1),(1,al x_2),(2,I lT)] [] 1 ?_
 unfold IZ at h
 refine ck 11 [7,8] [] [1,17,33] [] [ak c_1,.fn 67 [.hp 1 0 [] 2 0 0,.hp 33 0 [] 1 0 0,.hp 17 0 [] 12 0 0]] [some ⟨0,2,[ak c_1]⟩,some ⟨0,12,[al x_2]⟩,some ⟨0,1,[I lT]⟩] 97 (by kernel_rfl) ?_
 obtain⟨r4,hr4,h⟩:=bS h
 refine oq 113 (.hs 97 0 [] 1 0 (r4.map I).length) rfl (aW rfl rfl (bv rfl rfl rfl (bm (bK rfl) (bm (Ym (lj (EG (path:=[]) rfl rfl aG rfl rfl) (lj (EG (path:=[]) rfl rfl aG rfl rfl) (lj (EG (path:=[]) rfl rfl aG rfl rfl) yW)))) cy)) (XD hr4) (.inl (by simp[cr,di,str,oB (f:=I) WT])) cI rfl rfl rfl)) ?_
 refine cq 2 [6] [.hs 97 0 [] 1 0 (r4.map I).length] 129 ?_
 obtain rfl:=sI h
 exact bR rfl ⟨_,fin (vs:=[.hs 97 0 [] 1 0 (r4.map I).length]) rfl (ec (fe rfl (dt rfl rfl)) dZ) rfl (ed (ed (ed eH))),eE⟩
theorem Sy {G:cO}:cM G 35 Fa:=gT 3 0 (aU Sr bX) cY Tryz.func35 (fun a r h=>UK a.1 a.2.1 a.2.2 r h)
def Dq:(Condition×(List Int))→List V:=cA aE (oA (pG 1 I))
def Ds (r:(List Int)):V×List V:=(.usl 1 (r.map I),[.dead])
noncomputable def AB (cm:(Condition×(List Int))→Option (List Int)):Ent:=bC [false,true] Dq Ds cm
theorem PS (cm:(Condition×(List Int))→Option (List Int)){x}{r}(h:cm x=some r):(AB cm).F (Dq x)=some (Ds r):=aQ (bB bf (aR (fZ cu))) h
noncomputable def EY :=AB (aA ng)
theorem G7 {c_3:Condition}{bg:List Int}{r}(h:LI c_3 bg=some r):EY.F (Dq (c_3,bg))=some (Ds r):=PS (aA ng) h
noncomputable def Mz :=aK Tryz.f70
noncomputable def G6 (cm:(Condition×(List Int))→Option (List Int)):Env:=cX [(70,(AB cm))]
def Dr (cm:(Condition×(List Int))→Option (List Int))(x:Condition×(List Int))(r:(List Int)):St→Prop:=QF (G6 cm) Tryz.f70 [false,true] (Dq x) (Ds r)
theorem MA (cm:(Condition×(List Int))→Option (List Int))(c_3:Condition)(bg:List Int):cD (G6 cm) 1 (Dr cm (c_3,bg)) (cL (cL (cR (cL (cR (cR Mz)))))) 0 (ni cm c_3 bg) (fun u=>(sO 27 [(1,.hs 2 0 [] 1 0 (u.map I).length)] [none,some ⟨0,1,u.map I⟩] 3)) fun x4=>(sO 27 [(1,.hs 2 0 [] 1 0 (x4.2.map I).length),(16,.isl false (c_3.Parts.map au)),(17,I (len c_3.Parts)),(18,I x4.1)] [none,some ⟨0,1,x4.2.map I⟩] 3):=ey (Dt cm c_3 bg) fun {Q K} hK self ih x4 y h hr hn=>by
 unfold kU at h
 refine cq 5 [19] [B (decide (x4.1<(len c_3.Parts)))] 19 ?_
 refine sq h ?_ ?_<;>intro h
 ·refine aq 1 ?_
  refine aq 4 ?_
  obtain⟨e5,he5,h⟩:=bS h
  refine oq 35 (.iptr (aa e5) 0) rfl (ao rfl rfl rfl (bH rfl rfl (bd e5) rfl he5)) ?_
  refine ck 2 [6,21] [] [51] [] [.hp 51 0 [] 4 0 0,aa e5] [some ⟨0,4,[.agg [I (0),str ([]),I (0),.isl true []]]⟩] 67 (by kernel_rfl) ?_
  refine fK 51 [.agg [I (0),str ([]),I (0),.usl 4 (([]).map ae)]] rfl rfl (aD (gI (aD (.refl _) (aD (.refl _) (aD (.refl _) (aD (.nil _) eD))))) eD) ?_
  refine ck 5 [22,23] [] [51] [] [aa e5,.hs 2 0 [] 1 0 (x4.2.map I).length] [some ⟨2,4,[aa e5]⟩] 115 (by kernel_rfl) ?_
  obtain⟨r6,hr6,h⟩:=bS h
  refine oq 131 (.hs 115 0 [] 1 0 (r6.map I).length) rfl (aW rfl rfl (bv rfl rfl rfl (bm (bK rfl) (fq (fb rfl (dH (path:=[]) rfl rfl aG rfl)) cy)) (PS cm hr6) (.inr rfl) (fU rfl rfl rfl eu cI) rfl rfl rfl)) ?_
  refine cq 7 [1,18] [.hs 115 0 [] 1 0 (r6.map I).length,I (aj (x4.1+1))] 179 ?_
  refine cZ ?_
  exact rg [1,16,17,18] [180,115] (ih _ _ h hr hn :)
 ·refine aq 1 ?_
  exact rg [1] [20,2] (hn _ (ap h) :) (hk:=hK)
theorem Uw (cm:(Condition×(List Int))→Option (List Int))(c_3:Condition)(bg:List Int)(r:(List Int))(h:wY cm c_3 bg=some r):bT (G6 cm) Tryz.f70 [false,true] 1 (Dq (c_3,bg)) (Ds r):=by
 show Run _ _ (Dr cm (c_3,bg) r) [.code Mz] _
 refine rI 27 [(0,aa c_3),(1,.hs 1 0 [] 1 0 (bg.map I).length)] [(1,some ⟨0,1,bg.map I⟩)] 2 ?_
 unfold wY at h
 refine ck 12 [2,9] [] [2] [] [.hp 2 0 [] 4 0 0,B (c_3.Op==3)] [some ⟨0,4,[aa c_3]⟩] 82 (by kernel_rfl) ?_
 obtain⟨y3,hy3,hy31,hy32⟩:=bJ h
 have j3:∀u3,y3=.inr u3→Run (G6 cm) 1 (Dr cm (c_3,bg) r) (.code (cR (cR Mz))::[]) (sO 27 [(1,.hs 2 0 [] 1 0 (u3.map I).length),(2,.hp 3 0 [] 4 0 0)] [none,some ⟨0,1,u3.map I⟩,some ⟨0,4,[aa c_3]⟩] 4):=by
  intro u3 hu
  replace h:=hy32 u3 hu
  refine cq 5 [16] [.isl false (c_3.Parts.map au)] 36 ?_
  refine oq 52 (I (len c_3.Parts)) rfl (bG rfl rfl rfl (cH rfl)) ?_
  refine cq 3 [18] [I (0)] 68 ?_
  obtain⟨y7,hy7,hy71,hy72⟩:=bJ h
  refine bZ rfl ?_
  refine rg [1,16,17,18] [69,2] (MA cm c_3 bg rfl (0,u3) _ hy7 (fun r' e st hq=>by rw[hy71 r' e] at hq;exact hq) fun u7 hu=>?_)
  replace h:=hy72 u7 hu
  refine cq 5 [4] [.hs 2 0 [] 1 0 (u7.map I).length] 35 ?_
  obtain rfl:=sI h
  exact bR rfl ⟨_,fin (vs:=[.hs 2 0 [] 1 0 (u7.map I).length]) rfl (ec (fe rfl (dt rfl rfl)) dZ) rfl (ed (kr rfl (jb rfl) eH)),mq eE⟩
 have r3:∀r',y3=.inl r'→∀st,Dr cm (c_3,bg) r' st→(Dr cm (c_3,bg) r) st:=fun r' e st hq=>by rw[hy31 r' e] at hq;exact hq
 replace h:=hy3
 refine sq h ?_ ?_<;>intro h
 ·refine cq 4 [10,12] [.hs 1 0 [] 1 0 (bg.map I).length,I c_3.Day] 130 ?_
  refine oq 146 (.hs 130 0 [] 1 0 1) rfl (bW rfl (fh (f:=I) (xs:=[]) (z:=I (0)) (es:=[I c_3.Day]) (ws:=[I c_3.Day]) rfl rfl rfl (by decide) rfl (bz rfl) rfl)) ?_
  obtain⟨a8,ha8,h⟩:=bS h
  refine oq 162 (.hs 146 0 [] 1 0 (a8.map I).length) rfl (fW rfl rfl rfl rfl rfl (iL (path:=[]) (f:=I) (xs:=bg) (ys:=[c_3.Day]) rfl rfl (kq rfl rfl rfl) rfl rfl rfl aG rfl (by decide) tg ha8 rfl lO)) ?_
  refine cq 2 [1] [.hs 146 0 [] 1 0 (a8.map I).length] 178 ?_
  exact rg [1,2] [179,146,2] (j3 _ (ap h) :)
 ·refine aq 1 ?_
  exact rg [1,2] [83,1,2] (j3 _ (ap h) :)
theorem Sn {G:cO}:cM G 70 EY:=gx fun cm g_Ffe=>gT 2 1 (aU g_Ffe bX) cY Tryz.func70 (fun a r h=>Uw cm a.1 a.2 r h)
def DF:(Condition×(List ac)×Int)→List V:=cA aE (cA (ln str) (oA I))
def DG (r:Bool):V×List V:=(B r,[])
noncomputable def AE (cN:(Condition×(List ac)×Int)→Option Bool):Ent:=bC [false,false,false] DF DG cN
theorem tc (cN:(Condition×(List ac)×Int)→Option Bool){x}{r}(h:cN x=some r):(AE cN).F (DF x)=some (DG r):=aQ (bB bf (bB (d9 bI) (aR cu))) h
noncomputable def E6 :=AE (aA nm)
theorem TK {c_1:Condition}{bi:List ac}{bV:Int}{r}(h:FY c_1 bi bV=some r):E6.F (DF (c_1,bi,bV))=some (DG r):=tc (aA nm) h
noncomputable def DH :=aK Tryz.f71
noncomputable def Hj (cN:(Condition×(List ac)×Int)→Option Bool):Env:=cX [(93,ql),(71,(AE cN))]
def tV (cN:(Condition×(List ac)×Int)→Option Bool)(x:Condition×(List ac)×Int)(r:Bool):St→Prop:=QF (Hj cN) Tryz.f71 [false,false,false] (DF x) (DG r)
theorem UG (cN:(Condition×(List ac)×Int)→Option Bool)(c_1:Condition)(bi:List ac)(bV:Int)(r:Bool)(h:xc cN c_1 bi bV=some r):bT (Hj cN) Tryz.f71 [false,false,false] 0 (DF (c_1,bi,bV)) (DG r):=by
 show Run _ _ (tV cN (c_1,bi,bV) r) [.code DH] _
 refine rI 67 [(0,aa c_1),(1,.isl false (bi.map str)),(2,I bV)] [] 1 ?_
 unfold xc at h
 refine ck 17 [3,8,9] [] [1] [] [.hp 1 0 [] 4 0 0,I c_1.Op,B (c_1.Op==2)] [some ⟨0,4,[aa c_1]⟩] 97 (by kernel_rfl) ?_
 refine sq h ?_ ?_<;>intro h
 ·refine cq 5 [11,13] [.isl false (bi.map str),str c_1.Name] 145 ?_
  obtain⟨r4,hr4,h⟩:=bS h
  refine oq 161 (B r4) rfl (cP (Il hr4)) ?_
  refine cq 2 [6] [B r4] 177 ?_
  obtain rfl:=sI h
  exact rP [B r4]
 ·refine cq 5 [15] [B (c_1.Op==3)] 129 ?_
  refine sq h ?_ ?_<;>intro h
  ·refine cq 8 [6] [B (decide (bV≥c_1.Day))] 209 ?_
   obtain rfl:=sI h
   exact rP [B (decide (bV≥c_1.Day))]
  ·refine cq 5 [21] [B (c_1.Op==4)] 161 ?_
   refine sq h ?_ ?_<;>intro h
   ·refine cq 4 [24] [.isl false (c_1.Parts.map au)] 193 ?_
    obtain⟨e5,he5,h⟩:=bS h
    refine oq 209 (.iptr (aa e5) 0) rfl (ao rfl rfl rfl (bH rfl rfl (bd e5) rfl he5)) ?_
    refine cq 3 [26,27,28] [aa e5,.isl false (bi.map str),I bV] 257 ?_
    obtain⟨r6,hr6,h⟩:=bS h
    refine oq 273 (B r6) rfl (aW rfl rfl (bv rfl rfl rfl (bm (bK rfl) (bm (bK rfl) (bm (bK rfl) cy))) (tc cN hr6) (.inr rfl) cI rfl rfl rfl)) ?_
    refine cq 3 [6] [B (!r6)] 305 ?_
    obtain rfl:=sI h
    exact rP [B (!r6)]
   ·refine cq 5 [31] [B (c_1.Op==5)] 193 ?_
    refine sq h ?_ ?_<;>intro h
    ·refine cq 4 [34] [.isl false (c_1.Parts.map au)] 225 ?_
     obtain⟨e7,he7,h⟩:=bS h
     refine oq 241 (.iptr (aa e7) 0) rfl (ao rfl rfl rfl (bH rfl rfl (bd e7) rfl he7)) ?_
     refine cq 3 [36,37,38] [aa e7,.isl false (bi.map str),I bV] 289 ?_
     obtain⟨r8,hr8,h⟩:=bS h
     refine oq 305 (B r8) rfl (aW rfl rfl (bv rfl rfl rfl (bm (bK rfl) (bm (bK rfl) (bm (bK rfl) cy))) (tc cN hr8) (.inr rfl) cI rfl rfl rfl)) ?_
     refine cq 1 [40] [B r8] 321 ?_
     obtain⟨y9,hy9,hy91,hy92⟩:=bJ h
     have j9:∀u9,y9=.inr u9→Run (Hj cN) 0 (tV cN (c_1,bi,bV) r) (.code (cR (cL (cR (cR (cR (cR (cR (cR (cR (cL (cR (cL (cR DH)))))))))))))::.blk 0::.code (cR (cR DH))::[]) (sT 67 [(6,B u9)] [] 1):=by
      intro u9 hu
      replace h:=hy92 u9 hu
      obtain rfl:=sI h
      exact rP [B u9]
     have r9:∀r',y9=.inl r'→∀st,tV cN (c_1,bi,bV) r' st→(tV cN (c_1,bi,bV) r) st:=fun r' e st hq=>by rw[hy91 r' e] at hq;exact hq
     replace h:=hy9
     refine sp 40 h rfl ?_ ?_<;>intro h
     ·refine cq 2 [42] [.isl false (c_1.Parts.map au)] 353 ?_
      obtain⟨e10,he10,h⟩:=bS h
      refine oy 369 (.iptr (aa e10) 0) rfl (ao rfl rfl rfl (bH rfl rfl (bd e10) rfl he10)) ?_
      refine cq 3 [44,45,46] [aa e10,.isl false (bi.map str),I bV] 417 ?_
      obtain⟨r11,hr11,h⟩:=bS h
      refine oy 433 (B r11) rfl (aW rfl rfl (bv rfl rfl rfl (bm (bK rfl) (bm (bK rfl) (bm (bK rfl) cy))) (tc cN hr11) (.inr rfl) cI rfl rfl rfl)) ?_
      refine cq 3 [6] [B r11] 465 ?_
      exact rf [6] [] (j9 _ (ap h) :)
     ·refine cq 10 [6] [B false] 465 ?_
      exact rf [6] [] (j9 _ (ap h) :)
    ·refine cq 5 [49] [B (c_1.Op==6)] 225 ?_
     refine sq h ?_ ?_<;>intro h
     ·refine cq 4 [52] [.isl false (c_1.Parts.map au)] 257 ?_
      obtain⟨e12,he12,h⟩:=bS h
      refine oq 273 (.iptr (aa e12) 0) rfl (ao rfl rfl rfl (bH rfl rfl (bd e12) rfl he12)) ?_
      refine cq 3 [54,55,56] [aa e12,.isl false (bi.map str),I bV] 321 ?_
      obtain⟨r13,hr13,h⟩:=bS h
      refine oq 337 (B r13) rfl (aW rfl rfl (bv rfl rfl rfl (bm (bK rfl) (bm (bK rfl) (bm (bK rfl) cy))) (tc cN hr13) (.inr rfl) cI rfl rfl rfl)) ?_
      refine cq 1 [58] [B r13] 353 ?_
      obtain⟨y14,hy14,hy141,hy142⟩:=bJ h
      have j14:∀u14,y14=.inr u14→Run (Hj cN) 0 (tV cN (c_1,bi,bV) r) (.code (cR (cL (cR (cR (cR (cR (cR (cR (cR (cR (cR (cL (cR (cL (cR DH)))))))))))))))::.blk 0::.code (cR (cR DH))::[]) (sT 67 [(6,B u14)] [] 1):=by
       intro u14 hu
       replace h:=hy142 u14 hu
       obtain rfl:=sI h
       exact rP [B u14]
      have r14:∀r',y14=.inl r'→∀st,tV cN (c_1,bi,bV) r' st→(tV cN (c_1,bi,bV) r) st:=fun r' e st hq=>by rw[hy141 r' e] at hq;exact hq
      replace h:=hy14
      refine sp 58 h rfl ?_ ?_<;>intro h
      ·refine cq 10 [6] [B true] 497 ?_
       exact rf [6] [] (j14 _ (ap h) :)
      ·refine cq 2 [60] [.isl false (c_1.Parts.map au)] 385 ?_
       obtain⟨e15,he15,h⟩:=bS h
       refine oy 401 (.iptr (aa e15) 0) rfl (ao rfl rfl rfl (bH rfl rfl (bd e15) rfl he15)) ?_
       refine cq 3 [62,63,64] [aa e15,.isl false (bi.map str),I bV] 449 ?_
       obtain⟨r16,hr16,h⟩:=bS h
       refine oy 465 (B r16) rfl (aW rfl rfl (bv rfl rfl rfl (bm (bK rfl) (bm (bK rfl) (bm (bK rfl) cy))) (tc cN hr16) (.inr rfl) cI rfl rfl rfl)) ?_
       refine cq 3 [6] [B r16] 497 ?_
       exact rf [6] [] (j14 _ (ap h) :)
     ·refine aq 1 ?_
      refine cq 5 [6] [B true] 241 ?_
      obtain rfl:=sI h
      exact rP [B true]
theorem Su {G:cO}:cM G 71 E6:=gx fun cN g_Ffl=>gT 3 0 (aU vn (aU g_Ffl bX)) cY Tryz.func71 (fun a r h=>UG cN a.1 a.2.1 a.2.2 r h)
def Hy:(Condition×Condition×Bool)→List V:=cA aE (cA aE (oA B))
def Hz (r:Bool×Bool):V×List V:=(.tup [B r.1,B r.2],[])
noncomputable def Fc :=bC [false,false,false] Hy Hz fun x=>DL x.1 x.2.1 x.2.2
theorem TR {a_1:Condition}{b_2:Condition}{be:Bool}{r}(h:DL a_1 b_2 be=some r):Fc.F (Hy (a_1,b_2,be))=some (Hz r):=aQ (bB bf (bB bf (aR Xs))) h
noncomputable def HA :=aK Tryz.f36
noncomputable abbrev I1 :=cL (cL (cR (cL (cR (cR (cL (cL (cR (cR (cL (cL (cR (cL (cR (cR (cR (cR HA)))))))))))))))))
noncomputable abbrev DM :=cL (cL (cR (cR (cR (cR (cL (cL (cR (cR (cL (cL (cR (cL (cR (cR (cR (cR HA)))))))))))))))))
noncomputable def tW :=cX [(69,qh),(68,xd),(70,EY),(71,E6)]
def xe (x:Condition×Condition×Bool)(r:Bool×Bool):St→Prop:=QF tW Tryz.f36 [false,false,false] (Hy x) (Hz r)
theorem MO (a_1:Condition)(b_2:Condition)(be:Bool)(r6:(List ac))(x10:Int)(r8:(List Int))(q9:Int):cD tW 0 (xe (a_1,b_2,be)) I1 2 (qx a_1 b_2 be r6 x10 r8 q9) (fun u=>(sT 73 [(2,B be),(3,.hp 1 0 [] 4 0 0),(4,.hp 2 0 [] 4 0 0),(8,.hs 3 0 [] 1 0 (r6.map str).length),(9,.hs 4 0 [] 1 0 (r8.map I).length),(11,.hs 5 0 [] 1 0 (u.map str).length),(31,I q9),(32,I x10)] [⟨0,4,[aa a_1]⟩,⟨0,4,[aa b_2]⟩,⟨0,1,r6.map str⟩,⟨0,1,r8.map I⟩,⟨0,1,u.map str⟩] 6)) fun x11=>(sT 73 [(2,B be),(3,.hp 1 0 [] 4 0 0),(4,.hp 2 0 [] 4 0 0),(8,.hs 3 0 [] 1 0 (r6.map str).length),(9,.hs 4 0 [] 1 0 (r8.map I).length),(10,I x10),(11,.hs 5 0 [] 1 0 (x11.2.map str).length),(31,I q9),(32,I x10),(36,.hs 3 0 [] 1 0 (r6.map str).length),(37,I (len r6)),(38,I x11.1)] [⟨0,4,[aa a_1]⟩,⟨0,4,[aa b_2]⟩,⟨0,1,r6.map str⟩,⟨0,1,r8.map I⟩,⟨0,1,x11.2.map str⟩] 6):=ey (DP a_1 b_2 be r6 x10 r8 q9) fun {Q K} hK self ih x11 y h hr hn=>by
 unfold mh at h
 refine cq 5 [39] [B (decide (x11.1<(len r6)))] 22 ?_
 refine sq h ?_ ?_<;>intro h
 ·refine aq 1 ?_
  refine cq 5 [40] [I x11.1] 38 ?_
  obtain⟨e12,he12,h⟩:=bS h
  refine oq 54 (.hp 3 0 [] 1 (0+Int.toNat x11.1) 0) rfl (ao rfl rfl rfl (dJ (f:=str) (xs:=r6) rfl rfl rfl he12)) ?_
  refine oq 70 (str e12) rfl (cF rfl (iR (path:=[]) rfl rfl rfl aG (cT (f:=str) (xs:=r6) he12) rfl rfl rfl)) ?_
  refine cq 7 [13,43,44] [str e12,I x10,I x11.1] 134 ?_
  obtain⟨q13,hq13,h⟩:=bS h
  refine oq 150 (I q13) rfl (xi rfl rfl (T8 hq13)) ?_
  refine cq 3 [47] [B ((Jb .i64 q13 1)==1)] 182 ?_
  obtain⟨y14,hy14,hy141,hy142⟩:=bL h
  have j14:∀u14,y14=.inr u14→Run tW 0 Q (.blk 3::.code (cR (cR (cR I1)))::.lp I1::.blk 2::K) (sT 73 [(2,B be),(3,.hp 1 0 [] 4 0 0),(4,.hp 2 0 [] 4 0 0),(8,.hs 3 0 [] 1 0 (r6.map str).length),(9,.hs 4 0 [] 1 0 (r8.map I).length),(10,I x10),(11,.hs 5 0 [] 1 0 (u14.map str).length),(31,I q9),(32,I x10),(36,.hs 3 0 [] 1 0 (r6.map str).length),(37,I (len r6)),(38,I x11.1)] [⟨0,4,[aa a_1]⟩,⟨0,4,[aa b_2]⟩,⟨0,1,r6.map str⟩,⟨0,1,r8.map I⟩,⟨0,1,u14.map str⟩] 6):=by
   intro u14 hu
   replace h:=hy142 u14 hu
   refine cq 5 [38] [I (aj (x11.1+1))] 38 ?_
   refine cZ ?_
   exact rf [2,3,4,8,9,10,11,31,32,36,37,38] [1,2,3,4,5] (ih _ _ h hr hn :)
  have r14:∀r',y14=.inl r'→∀st,xe (a_1,b_2,be) r' st→Q st:=fun r' e st hq=>hr r' (hy141 r' e) st hq
  replace h:=hy14
  refine sq h ?_ ?_<;>intro h
  ·refine cq 3 [48,49] [.hs 5 0 [] 1 0 (x11.2.map str).length,str e12] 214 ?_
   refine oq 230 (.hs 214 0 [] 1 0 1) rfl (bW rfl (fh (f:=I) (xs:=[]) (z:=str ([])) (es:=[str e12]) (ws:=[str e12]) rfl rfl rfl (by decide) rfl (bz rfl) rfl)) ?_
   obtain⟨a15,ha15,h⟩:=bS h
   refine oq 246 (.hs 230 0 [] 1 0 (a15.map str).length) rfl (fW rfl rfl rfl rfl rfl (iL (path:=[]) (f:=str) (xs:=x11.2) (ys:=[e12]) rfl rfl (kq rfl rfl rfl) rfl rfl rfl aG rfl (by decide) iX ha15 rfl lO)) ?_
   refine cq 2 [11] [.hs 230 0 [] 1 0 (a15.map str).length] 262 ?_
   exact rf [2,3,4,8,9,10,11,31,32,36,37,38] [1,2,3,4,230] (j14 _ (ap h) :)
  ·refine aq 1 ?_
   exact rf [2,3,4,8,9,10,11,31,32,36,37,38] [1,2,3,4,5] (j14 _ (ap h) :)
 ·refine aq 1 ?_
  exact rf [2,3,4,8,9,11,31,32] [1,2,3,4,5] (hn _ (ap h) :) (hk:=hK)
theorem MP (a_1:Condition)(b_2:Condition)(be:Bool)(r8:(List Int))(u16:(List ac))(r6:(List ac))(q9:Int)(x10:Int):cD tW 0 (xe (a_1,b_2,be)) DM 4 (pa a_1 b_2 be r8 u16 r6 q9 x10) (fun u=>(sT 73 [(2,B be),(3,.hp 1 0 [] 4 0 0),(4,.hp 2 0 [] 4 0 0),(8,.hs 3 0 [] 1 0 (r6.map str).length),(9,.hs 4 0 [] 1 0 (r8.map I).length),(31,I q9),(32,I x10)] [⟨0,4,[aa a_1]⟩,⟨0,4,[aa b_2]⟩,⟨0,1,r6.map str⟩,⟨0,1,r8.map I⟩] 5)) fun x17=>(sT 73 [(2,B be),(3,.hp 1 0 [] 4 0 0),(4,.hp 2 0 [] 4 0 0),(8,.hs 3 0 [] 1 0 (r6.map str).length),(9,.hs 4 0 [] 1 0 (r8.map I).length),(11,.hs 5 0 [] 1 0 (u16.map str).length),(31,I q9),(32,I x10),(53,.hs 4 0 [] 1 0 (r8.map I).length),(54,I (len r8)),(55,I x17)] [⟨0,4,[aa a_1]⟩,⟨0,4,[aa b_2]⟩,⟨0,1,r6.map str⟩,⟨0,1,r8.map I⟩,⟨0,1,u16.map str⟩] 6):=ey (DQ a_1 b_2 be r8 u16 r6 q9 x10) fun {Q K} hK self ih x17 y h hr hn=>by
 unfold mi at h
 refine cq 5 [56] [B (decide (x17<(len r8)))] 22 ?_
 refine sq h ?_ ?_<;>intro h
 ·refine aq 1 ?_
  refine aq 4 ?_
  obtain⟨e18,he18,h⟩:=bS h
  refine oq 38 (.hp 4 0 [] 1 (0+Int.toNat x17) 0) rfl (ao rfl rfl rfl (dJ (f:=I) (xs:=r8) rfl rfl rfl he18)) ?_
  refine oq 54 (I e18) rfl (cF rfl (iR (path:=[]) rfl rfl rfl aG (cT (f:=I) (xs:=r8) he18) rfl rfl rfl)) ?_
  refine cq 7 [15,59,60,61] [I e18,aa a_1,.hs 5 0 [] 1 0 (u16.map str).length,I e18] 118 ?_
  obtain⟨r19,hr19,h⟩:=bS h
  refine oq 134 (B r19) rfl (aW rfl rfl (bv rfl rfl rfl (bm (bK rfl) (bm (pD rfl rfl (eT (f:=str) (g:=str) (xs:=u16) rfl rfl (dE gC))) (bm (bK rfl) cy))) (TK hr19) (.inl rfl) cI rfl rfl rfl)) ?_
  refine cq 1 [63] [B r19] 150 ?_
  obtain⟨y20,hy20,hy201,hy202⟩:=bL h
  have j20:∀u20,y20=.inr u20→Run tW 0 Q (.code (cR (cR (cL (cL (cR (cR DM))))))::.blk 5::.code (cR (cR (cR DM)))::.lp DM::.blk 4::K) (sT 73 [(2,B be),(3,.hp 1 0 [] 4 0 0),(4,.hp 2 0 [] 4 0 0),(8,.hs 3 0 [] 1 0 (r6.map str).length),(9,.hs 4 0 [] 1 0 (r8.map I).length),(11,.hs 5 0 [] 1 0 (u16.map str).length),(31,I q9),(32,I x10),(53,.hs 4 0 [] 1 0 (r8.map I).length),(54,I (len r8)),(55,I x17),(70,B u20)] [⟨0,4,[aa a_1]⟩,⟨0,4,[aa b_2]⟩,⟨0,1,r6.map str⟩,⟨0,1,r8.map I⟩,⟨0,1,u16.map str⟩] 6):=by
   intro u20 hu
   replace h:=hy202 u20 hu
   refine sq h ?_ ?_<;>intro h
   ·refine cq 5 [6,7] [B true,B true] 38 ?_
    exact bR rfl (hr _ (ap h) _ (qp [B true,B true]))
   ·refine aq 1 ?_
    refine cq 5 [55] [I (aj (x17+1))] 38 ?_
    refine cZ ?_
    exact rf [2,3,4,8,9,11,31,32,53,54,55] [1,2,3,4,5] (ih _ _ h hr hn :)
  have r20:∀r',y20=.inl r'→∀st,xe (a_1,b_2,be) r' st→Q st:=fun r' e st hq=>hr r' (hy201 r' e) st hq
  replace h:=hy20
  refine sp 63 h rfl ?_ ?_<;>intro h
  ·refine cq 3 [64,65,66] [aa b_2,.hs 5 0 [] 1 0 (u16.map str).length,I e18] 198 ?_
   obtain⟨r21,hr21,h⟩:=bS h
   refine oy 214 (B r21) rfl (aW rfl rfl (bv rfl rfl rfl (bm (bK rfl) (bm (pD rfl rfl (eT (f:=str) (g:=str) (xs:=u16) rfl rfl (dE gC))) (bm (bK rfl) cy))) (TK hr21) (.inl rfl) cI rfl rfl rfl)) ?_
   refine cq 4 [70] [B (r21==be)] 262 ?_
   exact rf [2,3,4,8,9,11,31,32,53,54,55,70] [1,2,3,4,5] (j20 _ (ap h) :)
  ·refine cq 8 [70] [B false] 262 ?_
   exact rf [2,3,4,8,9,11,31,32,53,54,55,70] [1,2,3,4,5] (j20 _ (ap h) :)
 ·refine aq 1 ?_
  exact rf [2,3,4,8,9,31,32] [1,2,3,4] (hn _ (ap h) :) (hk:=hK)
theorem MN (a_1:Condition)(b_2:Condition)(be:Bool)(q9:Int)(r6:(List ac))(r8:(List Int)):cD tW 0 (xe (a_1,b_2,be)) (cL (cL (cR (cL (cR (cR (cR (cR HA)))))))) 0 (o9 a_1 b_2 be q9 r6 r8) (fun u=>(sT 73 [] [] 1)) fun x10=>(sT 73 [(2,B be),(3,.hp 1 0 [] 4 0 0),(4,.hp 2 0 [] 4 0 0),(8,.hs 3 0 [] 1 0 (r6.map str).length),(9,.hs 4 0 [] 1 0 (r8.map I).length),(31,I q9),(32,I x10)] [⟨0,4,[aa a_1]⟩,⟨0,4,[aa b_2]⟩,⟨0,1,r6.map str⟩,⟨0,1,r8.map I⟩] 5):=ey (DN a_1 b_2 be q9 r6 r8) fun {Q K} hK self ih x10 y h hr hn=>by
 unfold mg at h
 refine cq 5 [33] [B (decide (x10<q9))] 21 ?_
 refine sq h ?_ ?_<;>intro h
 ·refine aq 1 ?_
  refine cq 9 [10] [I x10] 53 ?_
  refine oq 69 (.hs 53 0 [] 1 0 0) rfl (bW rfl (fh (f:=I) (xs:=[]) (z:=str ([])) (es:=[]) (ws:=[]) rfl rfl rfl (by decide) rfl (bz rfl) rfl)) ?_
  refine cq 6 [11,36] [.hs 53 0 [] 1 0 0,.hs 3 0 [] 1 0 (r6.map str).length] 101 ?_
  refine oq 117 (I (len r6)) rfl (bG rfl rfl rfl (gS (f:=str) (xs:=r6) rfl rfl)) ?_
  refine cq 3 [38] [I (0)] 133 ?_
  obtain⟨y16,hy16,hy161,hy162⟩:=bL h
  refine bZ rfl ?_
  refine rf [2,3,4,8,9,10,11,31,32,36,37,38] [1,2,3,4,53] (MO a_1 b_2 be r6 x10 r8 q9 rfl (0,[]) _ hy16 (fun r' e st hq=>hr r' (hy161 r' e) st hq) fun u16 hu=>?_)
  replace h:=hy162 u16 hu
  refine cq 3 [53] [.hs 4 0 [] 1 0 (r8.map I).length] 22 ?_
  refine oq 38 (I (len r8)) rfl (bG rfl rfl rfl (gS (f:=I) (xs:=r8) rfl rfl)) ?_
  refine cq 3 [55] [I (0)] 54 ?_
  obtain⟨y22,hy22,hy221,hy222⟩:=bL h
  refine bZ rfl ?_
  refine rf [2,3,4,8,9,11,31,32,53,54,55] [1,2,3,4,5] (MP a_1 b_2 be r8 u16 r6 q9 x10 rfl 0 _ hy22 (fun r' e st hq=>hr r' (hy221 r' e) st hq) fun u22 hu=>?_)
  replace h:=hy222 u22 hu
  refine cq 5 [32] [I (aj (x10+1))] 37 ?_
  refine cZ ?_
  exact rf [2,3,4,8,9,31,32] [1,2,3,4] (ih _ _ h hr hn :)
 ·refine aq 1 ?_
  exact rf [] [] (hn _ (ap h) :) (hk:=hK)
theorem UN (a_1:Condition)(b_2:Condition)(be:Bool)(r:Bool×Bool)(h:DL a_1 b_2 be=some r):bT tW Tryz.f36 [false,false,false] 0 (Hy (a_1,b_2,be)) (Hz r):=by
 show Run _ _ (xe (a_1,b_2,be) r) [.code HA] _
 refine rI 73 [(0,aa a_1),(1,aa b_2),(2,B be)] [] 1 ?_
 unfold DL at h
 refine ck 8 [3,4] [] [1,17] [] [.hp 1 0 [] 4 0 0,.hp 17 0 [] 4 0 0] [some ⟨0,4,[aa a_1]⟩,some ⟨0,4,[aa b_2]⟩] 65 (by kernel_rfl) ?_
 refine fa [0,0,2,7,15,31] rfl (by decide +kernel) ?_
 refine dq [17] [] (aa b_2) rfl (cF rfl rfl) ?_
 refine dq [1] [] (aa a_1) rfl (cF rfl rfl) ?_
 obtain⟨r4,hr4,h⟩:=bS h
 refine dq [] [] (.hs 97 0 [] 1 0 (r4.map str).length) rfl (aW rfl rfl (bv rfl rfl rfl (bm (bK rfl) (fq (fb rfl (Xd rfl)) cy)) (show qh.F [aa a_1,.isl true []]=some _ from xa hr4) (.inr rfl) cI rfl rfl rfl)) ?_ (dY rfl rfl rfl rfl (bm (bK rfl) (fq (fb rfl (Xd rfl)) cy)) (show qh.F [aa a_1,.isl true []]=some _ from xa hr4) (.inr rfl) rfl)
 obtain⟨r5,hr5,h⟩:=bS h
 refine dq [97] [97] (.hs 113 0 [] 1 0 (r5.map str).length) rfl (aW rfl rfl (bv rfl rfl rfl (bm (bK rfl) (fq (fb rfl (dH (path:=[]) rfl rfl aG rfl)) cy)) (xa hr5) (.inr rfl) (fU rfl rfl rfl eu cI) rfl rfl rfl)) ?_ (dY rfl rfl rfl rfl (bm (bK rfl) (fq (fb rfl (dH (path:=[]) rfl rfl aG rfl)) cy)) (xa hr5) (.inr rfl) rfl)
 obtain⟨r6,hr6,h⟩:=bS h
 refine dq [113] [113] (.hs 129 0 [] 1 0 (r6.map str).length) rfl (aW rfl rfl (bv rfl rfl rfl (fq (fb rfl (dH (path:=[]) rfl rfl aG rfl)) cy) (MM hr6) (.inr rfl) (fU rfl rfl rfl eu cI) rfl rfl rfl)) ?_ (dY rfl rfl rfl rfl (fq (fb rfl (dH (path:=[]) rfl rfl aG rfl)) cy) (MM hr6) (.inr rfl) rfl)
 refine dk 1 [8] [.hs 129 0 [] 1 0 (r6.map str).length] ?_
 refine de 161 rfl rfl ?_
 refine cq 4 [21] [.hs 129 0 [] 1 0 (r6.map str).length] 177 ?_
 refine oq 193 (I (len r6)) rfl (bG rfl rfl rfl (gS (f:=str) (xs:=r6) rfl rfl)) ?_
 refine cq 2 [23] [B (decide ((len r6)>10))] 209 ?_
 refine sq h ?_ ?_<;>intro h
 ·refine cq 5 [6,7] [B false,B false] 241 ?_
  obtain rfl:=sI h
  exact rP [B false,B false]
 ·refine aq 1 ?_
  refine aq 1 ?_
  refine fa [0,0,0,6,15,31] rfl (by decide +kernel) ?_
  refine dq [17] [] (aa b_2) rfl (cF rfl rfl) ?_
  refine dq [1] [] (aa a_1) rfl (cF rfl rfl) ?_
  refine dq [] [] (.hs 241 0 [] 1 0 1) rfl (bW rfl (fh (f:=I) (xs:=[]) (z:=I (0)) (es:=[I (0)]) (ws:=[I (0)]) rfl rfl rfl (by decide) rfl (bz rfl) rfl)) ?_
  obtain⟨r7,hr7,h⟩:=bS h
  refine dq [241] [241] (.hs 257 0 [] 1 0 (r7.map I).length) rfl (aW rfl rfl (bv rfl rfl rfl (bm (bK rfl) (fq (fb rfl (dH (path:=[]) (m:=1) (es2:=[I (0)]) rfl rfl aG rfl)) cy)) (G7 hr7) (.inr rfl) (fU rfl rfl rfl eu cI) rfl rfl rfl)) ?_ (dY rfl rfl rfl rfl (bm (bK rfl) (fq (fb rfl (dH (path:=[]) (m:=1) (es2:=[I (0)]) rfl rfl aG rfl)) cy)) (G7 hr7) (.inr rfl) rfl)
  obtain⟨r8,hr8,h⟩:=bS h
  refine dq [257] [257] (.hs 273 0 [] 1 0 (r8.map I).length) rfl (aW rfl rfl (bv rfl rfl rfl (bm (bK rfl) (fq (fb rfl (dH (path:=[]) rfl rfl aG rfl)) cy)) (G7 hr8) (.inr rfl) (fU rfl rfl rfl eu cI) rfl rfl rfl)) ?_ (dY rfl rfl rfl rfl (bm (bK rfl) (fq (fb rfl (dH (path:=[]) rfl rfl aG rfl)) cy)) (G7 hr8) (.inr rfl) rfl)
  refine dk 1 [9] [.hs 273 0 [] 1 0 (r8.map I).length] ?_
  refine de 305 rfl rfl ?_
  refine cq 4 [29] [.hs 129 0 [] 1 0 (r6.map str).length] 321 ?_
  refine oq 337 (I (len r6)) rfl (bG rfl rfl rfl (gS (f:=str) (xs:=r6) rfl rfl)) ?_
  obtain⟨q9,hq9,h⟩:=bS h
  refine oq 353 (I q9) rfl (xi rfl rfl (T7 hq9)) ?_
  refine cq 3 [32] [I (0)] 369 ?_
  obtain⟨y23,hy23,hy231,hy232⟩:=bJ h
  refine bZ rfl ?_
  refine rf [2,3,4,8,9,31,32] [1,17,129,273] (MN a_1 b_2 be q9 r6 r8 rfl 0 _ hy23 (fun r' e st hq=>by rw[hy231 r' e] at hq;exact hq) fun u23 hu=>?_)
  replace h:=hy232 u23 hu
  refine cq 5 [6,7] [B false,B true] 33 ?_
  obtain rfl:=sI h
  exact rP [B false,B true]
theorem SA {G:cO}:cM G 36 Fc:=gT 3 0 (aU IR (aU I0 (aU Sn (aU Su bX)))) cY Tryz.func36 (fun a r h=>UN a.1 a.2.1 a.2.2 r h)
def GT:Contract→List V:=oA aO
def GV (r:(List ArrInt2)×Bool):V×List V:=(.tup [.usl 2 (r.1.map ah),B r.2],[])
noncomputable def EL :=bC [false] GT GV fun x=>FK x
theorem TD {c_1:Contract}{r}(h:FK c_1=some r):EL.F (GT c_1)=some (GV r):=aQ (aR bN) h
noncomputable def Mh :=aK Tryz.f9
noncomputable abbrev HU :=cL (cL (cR (cR (cR (cL (cL (cR (cR (cL (cL (cR (cL (cR (cR (cR Mh)))))))))))))))
noncomputable def A9 :=cX [(34,EN),(35,Fa),(36,Fc)]
def GU (x:Contract)(r:(List ArrInt2)×Bool):St→Prop:=QF A9 Tryz.f9 [false] (GT x) (GV r)
theorem Mj (c_1:Contract)(r5:(List Int))(e4:Clause)(x3:Int×(List ArrInt2)):cD A9 0 (GU c_1) HU 2 (sh c_1 r5 e4 x3) (fun u=>(sT 58 [(1,.hp 1 0 [] 2 0 0),(4,.hs 2 0 [] 2 0 (u.map ah).length),(16,.isl false (c_1.Clauses.map ar)),(17,I (len c_1.Clauses)),(18,I x3.1)] [⟨0,2,[ak c_1]⟩,⟨0,2,u.map ah⟩] 3)) fun x6=>(sT 58 [(1,.hp 1 0 [] 2 0 0),(4,.hs 2 0 [] 2 0 (x6.2.map ah).length),(5,I x3.1),(6,.hp 3 0 [] 12 0 0),(16,.isl false (c_1.Clauses.map ar)),(17,I (len c_1.Clauses)),(18,I x3.1),(28,.hs 4 0 [] 1 0 (r5.map I).length),(29,I (len r5)),(30,I x6.1)] [⟨0,2,[ak c_1]⟩,⟨0,2,x6.2.map ah⟩,⟨0,12,[al e4]⟩,⟨0,1,r5.map I⟩] 5):=ey (Bb c_1 r5 e4 x3) fun {Q K} hK self ih x6 y h hr hn=>by
 unfold ma at h
 refine cq 5 [31] [B (decide (x6.1<(len r5)))] 21 ?_
 refine sq h ?_ ?_<;>intro h
 ·refine aq 1 ?_
  refine aq 4 ?_
  obtain⟨e7,he7,h⟩:=bS h
  refine oq 37 (.hp 4 0 [] 1 (0+Int.toNat x6.1) 0) rfl (ao rfl rfl rfl (dJ (f:=I) (xs:=r5) rfl rfl rfl he7)) ?_
  refine oq 53 (I e7) rfl (cF rfl (iR (path:=[]) rfl rfl rfl aG (cT (f:=I) (xs:=r5) he7) rfl rfl rfl)) ?_
  refine cq 3 [8] [I e7] 69 ?_
  refine fa [0,1,0,4,0,28,60,124,255,511,1023,1023,2047,8191] rfl (by decide +kernel) ?_
  refine dq [3] [] (.hp 3 0 [] 12 0 6) rfl (dM rfl rfl rfl) ?_
  refine dq [3] [] (aa e4.When) rfl (cF rfl rfl) ?_
  refine dq [1] [] (.hp 1 0 [] 2 0 1) rfl (dM rfl rfl rfl) ?_
  refine dq [1] [] (.isl false (c_1.Clauses.map ar)) rfl (cF rfl rfl) ?_
  refine dk 1 [39] [I e7] ?_
  obtain⟨e8,he8,h⟩:=bS h
  refine dq [] [] (.iptr (al e8) 0) rfl (ao rfl rfl rfl (bH rfl rfl rfl rfl he8)) ?_
  refine dq [] [] (.iptr (al e8) 6) rfl (dM rfl rfl rfl) ?_
  refine dq [] [] (aa e8.When) rfl (cF rfl rfl) ?_
  obtain⟨r9,hr9,h⟩:=bS h
  refine dq [] [] (.tup [B r9.1,B r9.2]) rfl (cP (TR hr9)) ?_ (dY rfl rfl rfl rfl (bm (bK rfl) (bm (bK rfl) (bm (bK rfl) cy))) (TR hr9) (.inr rfl) rfl)
  refine dk 5 [10,9,45,44,34] [B r9.2,B r9.1,B r9.2,B r9.1,.tup [B r9.1,B r9.2]] ?_
  refine de 293 rfl rfl ?_
  refine cq 6 [47] [B (!r9.2)] 325 ?_
  refine sq h ?_ ?_<;>intro h
  ·refine cq 5 [2,3] [.isl true [],B false] 357 ?_
   refine Fz 2 0 2 373 (.hs 357 0 [] 2 0 0) rfl rfl rfl rfl rfl ?_
   exact bR rfl (hr _ (ap h) _ ⟨_,fin (vs:=[.hs 357 0 [] 2 0 0,B false]) rfl (ec (fe rfl (dt (k:=0) (es:=[]) rfl rfl)) (ec (bq rfl) dZ)) rfl (ed eH),eE⟩)
  ·refine aq 1 ?_
   refine cq 4 [48] [B r9.1] 341 ?_
   obtain⟨y10,hy10,hy101,hy102⟩:=bL h
   have j10:∀u10,y10=.inr u10→Run A9 0 Q (.blk 3::.code (cR (cR (cR HU)))::.lp HU::.blk 2::K) (sT 58 [(1,.hp 1 0 [] 2 0 0),(4,.hs 2 0 [] 2 0 (u10.map ah).length),(5,I x3.1),(6,.hp 3 0 [] 12 0 0),(16,.isl false (c_1.Clauses.map ar)),(17,I (len c_1.Clauses)),(18,I x3.1),(28,.hs 4 0 [] 1 0 (r5.map I).length),(29,I (len r5)),(30,I x6.1)] [⟨0,2,[ak c_1]⟩,⟨0,2,u10.map ah⟩,⟨0,12,[al e4]⟩,⟨0,1,r5.map I⟩] 5):=by
    intro u10 hu
    replace h:=hy102 u10 hu
    refine cq 5 [30] [I (aj (x6.1+1))] 37 ?_
    refine cZ ?_
    exact rf [1,4,5,6,16,17,18,28,29,30] [1,2,3,4] (ih _ _ h hr hn :)
   have r10:∀r',y10=.inl r'→∀st,GU c_1 r' st→Q st:=fun r' e st hq=>hr r' (hy101 r' e) st hq
   replace h:=hy10
   refine sq h ?_ ?_<;>intro h
   ·refine cq 5 [49,52] [.hs 2 0 [] 2 0 (x6.2.map ah).length,.agg [I x3.1,I e7]] 405 ?_
    refine oq 421 (.hs 405 0 [] 2 0 1) rfl (bW rfl (fh (f:=I) (xs:=[]) (z:=.agg [I (0),I (0)]) (es:=[.agg [I x3.1,I e7]]) (ws:=[.agg [I x3.1,I e7]]) rfl rfl rfl (by decide) rfl (bz rfl) rfl)) ?_
    obtain⟨a11,ha11,h⟩:=bS h
    refine oq 437 (.hs 421 0 [] 2 0 (a11.map ah).length) rfl (fW rfl rfl rfl rfl rfl (iL (path:=[]) (f:=ah) (xs:=x6.2) (ys:=[(ArrInt2.mk x3.1 e7)]) rfl rfl (kq rfl rfl rfl) rfl rfl rfl aG rfl (by decide) pB ha11 rfl lO)) ?_
    refine cq 2 [4] [.hs 421 0 [] 2 0 (a11.map ah).length] 453 ?_
    exact rf [1,4,5,6,16,17,18,28,29,30] [1,421,3,4] (j10 _ (ap h) :)
   ·refine aq 1 ?_
    exact rf [1,4,5,6,16,17,18,28,29,30] [1,2,3,4] (j10 _ (ap h) :)
 ·refine aq 1 ?_
  exact rf [1,4,16,17,18] [1,2] (hn _ (ap h) :) (hk:=hK)
theorem Mi (c_1:Contract):cD A9 0 (GU c_1) (cL (cL (cR (cL (cR (cR (cR Mh))))))) 0 (sf c_1) (fun u=>(sT 58 [(4,.hs 1 0 [] 2 0 (u.map ah).length)] [⟨0,2,u.map ah⟩] 2)) fun x3=>(sT 58 [(1,.hp 1 0 [] 2 0 0),(4,.hs 2 0 [] 2 0 (x3.2.map ah).length),(16,.isl false (c_1.Clauses.map ar)),(17,I (len c_1.Clauses)),(18,I x3.1)] [⟨0,2,[ak c_1]⟩,⟨0,2,x3.2.map ah⟩] 3):=ey (Ba c_1) fun {Q K} hK self ih x3 y h hr hn=>by
 unfold l9 at h
 refine cq 5 [19] [B (decide (x3.1<(len c_1.Clauses)))] 19 ?_
 refine sq h ?_ ?_<;>intro h
 ·refine aq 1 ?_
  refine cq 5 [20] [I x3.1] 35 ?_
  obtain⟨e4,he4,h⟩:=bS h
  refine oq 51 (.iptr (al e4) 0) rfl (ao rfl rfl rfl (bH rfl rfl rfl rfl he4)) ?_
  refine ck 2 [6,22] [] [67] [] [.hp 67 0 [] 12 0 0,al e4] [some ⟨0,12,[.agg [str ([]),I (0),I (0),str ([]),I (0),I (0),I (0),str ([]),I (0),.isl true [],I (0),str ([])]]⟩] 83 (by kernel_rfl) ?_
  refine fK 67 [.agg [str ([]),I (0),I (0),str ([]),I (0),I (0),I (0),str ([]),I (0),.usl 4 (([]).map ae),I (0),str ([])]] rfl rfl (aD (gI (aD (.refl _) (aD (.refl _) (aD (.refl _) (aD (.refl _) (aD (.refl _) (aD (.refl _) (aD (.refl _) (aD (.refl _) (aD (.refl _) (aD (.nil _) (aD (.refl _) (aD (.refl _) eD))))))))))))) eD) ?_
  refine ck 10 [5,25] [] [67] [] [I x3.1,B (e4.Kind != 1)] [some ⟨2,12,[al e4]⟩] 163 (by kernel_rfl) ?_
  refine sq h ?_ ?_<;>intro h
  ·refine cq 5 [18] [I (aj (x3.1+1))] 195 ?_
   refine cZ ?_
   exact rf [1,4,16,17,18] [1,2] (ih _ _ h hr hn :)
  ·refine aq 1 ?_
   refine cq 4 [26,27] [ak c_1,al e4] 195 ?_
   obtain⟨r5,hr5,h⟩:=bS h
   refine oq 211 (.hs 195 0 [] 1 0 (r5.map I).length) rfl (cP (XJ hr5)) ?_
   refine oq 227 (I (len r5)) rfl (bG rfl rfl rfl (gS (f:=I) (xs:=r5) rfl rfl)) ?_
   refine cq 3 [30] [I (0)] 243 ?_
   obtain⟨y12,hy12,hy121,hy122⟩:=bL h
   refine bZ rfl ?_
   refine rf [1,4,5,6,16,17,18,28,29,30] [1,2,67,195] (Mj c_1 r5 e4 x3 rfl (0,x3.2) _ hy12 (fun r' e st hq=>hr r' (hy121 r' e) st hq) fun u12 hu=>?_)
   replace h:=hy122 u12 hu
   refine cq 5 [18] [I (aj (x3.1+1))] 35 ?_
   refine cZ ?_
   exact rf [1,4,16,17,18] [1,2] (ih _ _ h hr hn :)
 ·refine aq 1 ?_
  exact rf [4] [2] (hn _ (ap h) :) (hk:=hK)
theorem Uh (c_1:Contract)(r:(List ArrInt2)×Bool)(h:FK c_1=some r):bT A9 Tryz.f9 [false] 0 (GT c_1) (GV r):=by
 show Run _ _ (GU c_1 r) [.code Mh] _
 refine rI 58 [(0,ak c_1)] [] 1 ?_
 unfold FK at h
 refine ck 10 [1,11] [] [1] [] [.hp 1 0 [] 2 0 0,ak c_1] [some ⟨0,2,[ak c_1]⟩] 65 (by kernel_rfl) ?_
 obtain⟨r2,hr2,h⟩:=bS h
 refine oq 81 (B r2) rfl (cP (Xw hr2)) ?_
 refine cq 2 [13] [B (!r2)] 97 ?_
 refine sq h ?_ ?_<;>intro h
 ·refine cq 5 [2,3] [.isl true [],B false] 129 ?_
  refine Fz 2 0 2 145 (.hs 129 0 [] 2 0 0) rfl rfl rfl rfl rfl ?_
  obtain rfl:=sI h
  exact bR rfl ⟨_,fin (vs:=[.hs 129 0 [] 2 0 0,B false]) rfl (ec (fe rfl (dt (k:=0) (es:=[]) rfl rfl)) (ec (bq rfl) dZ)) rfl (ed eH),eE⟩
 ·refine aq 1 ?_
  refine aq 2 ?_
  refine oq 113 (.hs 97 0 [] 2 0 0) rfl (bW rfl (fh (f:=I) (xs:=[]) (z:=.agg [I (0),I (0)]) (es:=[]) (ws:=[]) rfl rfl rfl (by decide) rfl (bz rfl) rfl)) ?_
  refine cq 7 [4,16] [.hs 97 0 [] 2 0 0,.isl false (c_1.Clauses.map ar)] 161 ?_
  refine oq 177 (I (len c_1.Clauses)) rfl (bG rfl rfl rfl (cH rfl)) ?_
  refine cq 3 [18] [I (0)] 193 ?_
  obtain⟨y13,hy13,hy131,hy132⟩:=bJ h
  refine bZ rfl ?_
  refine rf [1,4,16,17,18] [1,97] (Mi c_1 rfl (0,[]) _ hy13 (fun r' e st hq=>by rw[hy131 r' e] at hq;exact hq) fun u13 hu=>?_)
  replace h:=hy132 u13 hu
  refine cq 6 [2,3] [.hs 1 0 [] 2 0 (u13.map ah).length,B true] 50 ?_
  obtain rfl:=sI h
  exact bR rfl ⟨_,fin (vs:=[.hs 1 0 [] 2 0 (u13.map ah).length,B true]) rfl (ec (fe rfl (dt rfl rfl)) (ec (bq rfl) dZ)) rfl (ed eH),eE⟩
theorem Re {G:cO}:cM G 9 EL:=gT 1 0 (aU RI (aU Sy (aU SA bX))) cY Tryz.func9 (fun a r h=>Uh a r h)
def Be:(ArrInt2×ArrInt2)→List V:=cA ah (oA ah)
def Bf (r:Bool):V×List V:=(B r,[])
noncomputable def zg :=bC [false,false] Be Bf fun x=>uX x.1 x.2
theorem NU {a_1:ArrInt2}{b_2:ArrInt2}{r}(h:uX a_1 b_2=some r):zg.F (Be (a_1,b_2))=some (Bf r):=aQ (bB gQ (aR gQ)) h
noncomputable def NW :=aK Tryz.f37
noncomputable def HW :=cX []
def NV (x:ArrInt2×ArrInt2)(r:Bool):St→Prop:=QF HW Tryz.f37 [false,false] (Be x) (Bf r)
end Go.Ln
