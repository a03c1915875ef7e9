/-
  The walks.
-/
import Derived.Test.YtcfddlacocdpoaaGreatDoorFnExactExposureOfFun
import Derived.Test.YtcfddlacocdpoaaGreatDoorChecked
set_option maxHeartbeats 4000000
set_option linter.unusedVariables false
set_option linter.unusedSimpArgs false
set_option maxRecDepth 100000
namespace Go.Ln
open Go Go.Proofs
noncomputable abbrev cd:=Checked.mixed Tryz.checked
abbrev bZ:=Go.Ln.Ground
abbrev bV (G:bZ):=fT Tryz.prog G
noncomputable abbrev cb:=VF Tryz.prog
def D7:((List ac)×Int)→List V:=cA (fG str) (oA I)
def D8 (r:Int):V×List V:=(I r,[])
noncomputable def uZ :=bi [false,false] D7 D8 fun x=>wG x.1 x.2
theorem SC {a_1:List ac}{aw:Int}{r}(h:wG a_1 aw=some r):uZ.F (D7 (a_1,aw))=some (D8 r):=aH (aJ (bW bT) (aI bo)) h
noncomputable def SE :=aF Tryz.f41
noncomputable def Lm :=cb []
def SD (x:(List ac)×Int)(r:Int):St→Prop:=QF Lm Tryz.f41 [false,false] (D7 x) (D8 r)
theorem NO (a_1:List ac)(aw:Int):ch Lm 0 (SD (a_1,aw)) (cL (cL (cR (cL (cR (cR (cR SE))))))) 0 (tz a_1 aw) (fun u=>(sT 28 [(1,I u)] [] 1)) fun x3=>(sT 28 [(0,.isl false (a_1.map str)),(1,I x3.1),(5,I x3.2)] [] 1):=eg (zj a_1 aw) fun {Q K} hK self ih x3 y h hr hn=>by
 unfold nt at h
 refine cq 5 [12,13] [I x3.2,.isl false (a_1.map str)] 33 ?_
 refine oq 49 (I (len a_1)) rfl (bu rfl rfl rfl (bG rfl)) ?_
 refine cq 2 [15] [B (decide (x3.2<(len a_1)))] 65 ?_
 refine sq h ?_ ?_<;>intro h
 ·refine aq 1 ?_
  refine cq 7 [18,19,20] [I x3.1,.isl false (a_1.map str),I x3.2] 113 ?_
  obtain⟨e4,he4,h⟩:=bS h
  refine oq 129 (.iptr (str e4) 0) rfl (ak rfl rfl rfl (ba rfl rfl rfl rfl he4)) ?_
  refine cq 10 [1,26] [I (ai (x3.1 - (len e4))),B (decide ((ai (x3.1 - (len e4)))<0))] 225 ?_
  refine sq h ?_ ?_<;>intro h
  ·refine cq 4 [4] [I (-1)] 241 ?_
   exact cr rfl (hr _ (aj h) _ (qp [I (-1)]))
  ·refine aq 1 ?_
   refine cq 6 [5] [I (ai (x3.2+1))] 273 ?_
   refine cZ ?_
   exact rf [0,1,5] [] (ih _ _ h hr hn :)
 ·refine aq 1 ?_
  exact rf [1] [] (hn _ (aj h) :) (hk:=hK)
theorem WM (a_1:List ac)(aw:Int)(r:Int)(h:wG a_1 aw=some r):br Lm Tryz.f41 [false,false] 0 (D7 (a_1,aw)) (D8 r):=by
 show Run _ _ (SD (a_1,aw) r) [.code SE] _
 refine rI 28 [(0,.isl false (a_1.map str)),(1,I aw)] [] 1 ?_
 unfold wG at h
 refine cq 8 [6,7] [I aw,.isl false (a_1.map str)] 49 ?_
 refine oq 65 (I (len a_1)) rfl (bu rfl rfl rfl (bG rfl)) ?_
 refine cq 9 [1,11] [I (ai (aw - (len a_1))),B (decide ((ai (aw - (len a_1)))<0))] 129 ?_
 refine sq h ?_ ?_<;>intro h
 ·refine cq 4 [4] [I (-1)] 145 ?_
  obtain rfl:=sI h
  exact rP [I (-1)]
 ·refine aq 1 ?_
  refine cq 6 [5] [I (0)] 145 ?_
  obtain⟨y5,hy5,hy51,hy52⟩:=bJ h
  refine bN rfl ?_
  refine rf [0,1,5] [] (NO a_1 aw rfl ((ai (aw - (len a_1))),0) _ hy5 (fun r' e st hq=>by rw[hy51 r' e] at hq;exact hq) fun u5 hu=>?_)
  replace h:=hy52 u5 hu
  refine cq 5 [4] [I u5] 33 ?_
  obtain rfl:=sI h
  exact rP [I u5]
theorem I3 {G:bZ}:bV G 41 uZ:=gT 2 0 bz cd Tryz.func41 (fun a r h=>WM a.1 a.2 r h)
def wD:(Condition×Int)→List V:=cA bF (oA I)
def wE (r:Int):V×List V:=(I r,[])
noncomputable def sb (bv:(Condition×Int)→Option Int):Ent:=bi [false,false] wD wE bv
theorem O1 (bv:(Condition×Int)→Option Int){x}{r}(h:bv x=some r):(sb bv).F (wD x)=some (wE r):=aH (aJ dC (aI bo)) h
def DW:((List Condition)×Int)→List V:=cA (fG aE) (oA I)
def DX (r:Int):V×List V:=(I r,[])
noncomputable def Bo (bv:(Condition×Int)→Option Int):Ent:=bi [false,false] DW DX fun x=>wF bv x.1 x.2
theorem ab0 (bv:(Condition×Int)→Option Int){a_1:List Condition}{aw:Int}{r}(h:wF bv a_1 aw=some r):(Bo bv).F (DW (a_1,aw))=some (DX r):=aH (aJ (bW fC) (aI bo)) h
noncomputable def Sq :=aF Tryz.f168
noncomputable def Lj (bv:(Condition×Int)→Option Int):Env:=cb [(134,(sb bv))]
def Sp (bv:(Condition×Int)→Option Int)(x:(List Condition)×Int)(r:Int):St→Prop:=QF (Lj bv) Tryz.f168 [false,false] (DW x) (DX r)
theorem NN (bv:(Condition×Int)→Option Int)(a_1:List Condition)(aw:Int):ch (Lj bv) 0 (Sp bv (a_1,aw)) (cL (cL (cR (cL (cR (cR (cR Sq))))))) 0 (qU bv a_1 aw) (fun u=>(sT 27 [(1,I u)] [] 1)) fun x3=>(sT 27 [(0,.isl false (a_1.map aE)),(1,I x3.1),(5,I x3.2)] [] 1):=eg (zi bv a_1 aw) fun {Q K} hK self ih x3 y h hr hn=>by
 unfold ls at h
 refine cq 5 [12,13] [I x3.2,.isl false (a_1.map aE)] 33 ?_
 refine oq 49 (I (len a_1)) rfl (bu rfl rfl rfl (bG rfl)) ?_
 refine cq 2 [15] [B (decide (x3.2<(len a_1)))] 65 ?_
 refine sq h ?_ ?_<;>intro h
 ·refine aq 1 ?_
  refine cq 6 [18,19] [.isl false (a_1.map aE),I x3.2] 97 ?_
  obtain⟨e4,he4,h⟩:=bS h
  refine oq 113 (.iptr (bF e4) 0) rfl (ak rfl rfl rfl (ba rfl rfl (dA e4) rfl he4)) ?_
  refine cq 2 [21,22] [bF e4,I x3.1] 145 ?_
  obtain⟨r5,hr5,h⟩:=bS h
  refine oq 161 (I r5) rfl (b8 rfl rfl (cu rfl rfl rfl (bd (bM rfl) (bd (bM rfl) dx)) (O1 bv hr5) (.inr rfl) ec rfl rfl rfl)) ?_
  refine cq 7 [1,25] [I r5,B (decide (r5<0))] 209 ?_
  refine sq h ?_ ?_<;>intro h
  ·refine cq 4 [4] [I (-1)] 225 ?_
   exact cr rfl (hr _ (aj h) _ (qp [I (-1)]))
  ·refine aq 1 ?_
   refine cq 6 [5] [I (ai (x3.2+1))] 257 ?_
   refine cZ ?_
   exact rf [0,1,5] [] (ih _ _ h hr hn :)
 ·refine aq 1 ?_
  exact rf [1] [] (hn _ (aj h) :) (hk:=hK)
theorem WG (bv:(Condition×Int)→Option Int)(a_1:List Condition)(aw:Int)(r:Int)(h:wF bv a_1 aw=some r):br (Lj bv) Tryz.f168 [false,false] 0 (DW (a_1,aw)) (DX r):=by
 show Run _ _ (Sp bv (a_1,aw) r) [.code Sq] _
 refine rI 27 [(0,.isl false (a_1.map aE)),(1,I aw)] [] 1 ?_
 unfold wF at h
 refine cq 8 [6,7] [I aw,.isl false (a_1.map aE)] 49 ?_
 refine oq 65 (I (len a_1)) rfl (bu rfl rfl rfl (bG rfl)) ?_
 refine cq 9 [1,11] [I (ai (aw - (len a_1))),B (decide ((ai (aw - (len a_1)))<0))] 129 ?_
 refine sq h ?_ ?_<;>intro h
 ·refine cq 4 [4] [I (-1)] 145 ?_
  obtain rfl:=sI h
  exact rP [I (-1)]
 ·refine aq 1 ?_
  refine cq 6 [5] [I (0)] 145 ?_
  obtain⟨y6,hy6,hy61,hy62⟩:=bJ h
  refine bN rfl ?_
  refine rf [0,1,5] [] (NN bv a_1 aw rfl ((ai (aw - (len a_1))),0) _ hy6 (fun r' e st hq=>by rw[hy61 r' e] at hq;exact hq) fun u6 hu=>?_)
  replace h:=hy62 u6 hu
  refine cq 5 [4] [I u6] 33 ?_
  obtain rfl:=sI h
  exact rP [I u6]
theorem Sr {G:bZ}(bv:(Condition×Int)→Option Int)(MT:bV G 134 (sb bv)):bV G 168 (Bo bv):=gT 2 0 (aO MT bz) cd Tryz.func168 (fun a r h=>WG bv a.1 a.2 r h)
noncomputable def Bn :=sb (aL pV)
theorem abX {a_1:Condition}{aw:Int}{r}(h:wC a_1 aw=some r):Bn.F (wD (a_1,aw))=some (wE r):=O1 (aL pV) h
noncomputable def abZ :=aF Tryz.f134
noncomputable def Sn (bv:(Condition×Int)→Option Int):Env:=cb [(168,(Bo bv))]
def abY (bv:(Condition×Int)→Option Int)(x:Condition×Int)(r:Int):St→Prop:=QF (Sn bv) Tryz.f134 [false,false] (wD x) (wE r)
theorem WF (bv:(Condition×Int)→Option Int)(a_1:Condition)(aw:Int)(r:Int)(h:tx bv a_1 aw=some r):br (Sn bv) Tryz.f134 [false,false] 0 (wD (a_1,aw)) (wE r):=by
 show Run _ _ (abY bv (a_1,aw) r) [.code abZ] _
 refine rI 19 [(0,bF a_1),(1,I aw)] [] 1 ?_
 unfold tx at h
 refine ck 20 [1,2,11] [] [1] [] [I (ai (aw - (len a_1.Name))),.hp 1 0 [] 4 0 0,B (decide ((ai (aw - (len a_1.Name)))<0))] [some ⟨0,4,[bF a_1]⟩] 161 (by kernel_rfl) ?_
 refine sq h ?_ ?_<;>intro h
 ·refine cq 4 [4] [I (-1)] 177 ?_
  obtain rfl:=sI h
  exact rP [I (-1)]
 ·refine aq 1 ?_
  refine cq 5 [13,14] [.isl false (a_1.Parts.map aE),I (ai (aw - (len a_1.Name)))] 209 ?_
  obtain⟨r3,hr3,h⟩:=bS h
  refine oq 225 (I r3) rfl (b8 rfl rfl (cu rfl rfl rfl (bd (bM rfl) (bd (bM rfl) dx)) (ab0 bv hr3) (.inr rfl) ec rfl rfl rfl)) ?_
  refine cq 8 [1,17] [I r3,B (decide (r3<0))] 273 ?_
  refine sq h ?_ ?_<;>intro h
  ·refine cq 4 [4] [I (-1)] 289 ?_
   obtain rfl:=sI h
   exact rP [I (-1)]
  ·refine aq 1 ?_
   refine cq 5 [4] [I r3] 305 ?_
   obtain rfl:=sI h
   exact rP [I r3]
theorem So {G:bZ}:bV G 134 Bn:=kx fun bv MT=>gT 2 0 (aO (Sr bv MT) bz) cd Tryz.func134 (fun a r h=>WF bv a.1 a.2 r h)
def DS:(Clause×Int)→List V:=cA ap (oA I)
def DT (r:Int):V×List V:=(I r,[])
noncomputable def Bk :=bi [false,false] DS DT fun x=>uY x.1 x.2
theorem abT {a_1:Clause}{aw:Int}{r}(h:uY a_1 aw=some r):Bk.F (DS (a_1,aw))=some (DT r):=aH (aJ dI (aI bo)) h
noncomputable def abV :=aF Tryz.f88
noncomputable def Si :=cb [(134,Bn)]
def abU (x:Clause×Int)(r:Int):St→Prop:=QF Si Tryz.f88 [false,false] (DS x) (DT r)
theorem WC (a_1:Clause)(aw:Int)(r:Int)(h:uY a_1 aw=some r):br Si Tryz.f88 [false,false] 0 (DS (a_1,aw)) (DT r):=by
 show Run _ _ (abU (a_1,aw) r) [.code abV] _
 refine rI 33 [(0,ap a_1),(1,I aw)] [] 1 ?_
 unfold uY at h
 refine ck 20 [1,2,11] [] [1] [] [I (ai (aw - (len a_1.Id))),.hp 1 0 [] 12 0 0,B (decide ((ai (aw - (len a_1.Id)))<0))] [some ⟨0,12,[ap a_1]⟩] 161 (by kernel_rfl) ?_
 refine sq h ?_ ?_<;>intro h
 ·refine cq 4 [4] [I (-1)] 177 ?_
  obtain rfl:=sI h
  exact rP [I (-1)]
 ·refine aq 1 ?_
  refine cq 15 [1,18] [I (ai ((ai (aw - (len a_1.Id))) - (len a_1.Action))),B (decide ((ai ((ai (aw - (len a_1.Id))) - (len a_1.Action)))<0))] 289 ?_
  refine sq h ?_ ?_<;>intro h
  ·refine cq 4 [4] [I (-1)] 305 ?_
   obtain rfl:=sI h
   exact rP [I (-1)]
  ·refine aq 1 ?_
   refine cq 5 [20,21] [bF a_1.When,I (ai ((ai (aw - (len a_1.Id))) - (len a_1.Action)))] 337 ?_
   obtain⟨r3,hr3,h⟩:=bS h
   refine oq 353 (I r3) rfl (cP (abX hr3)) ?_
   refine cq 8 [1,24] [I r3,B (decide (r3<0))] 401 ?_
   refine sq h ?_ ?_<;>intro h
   ·refine cq 4 [4] [I (-1)] 417 ?_
    obtain rfl:=sI h
    exact rP [I (-1)]
   ·refine aq 1 ?_
    refine cq 15 [1,31] [I (ai (r3 - (len a_1.Repair))),B (decide ((ai (r3 - (len a_1.Repair)))<0))] 529 ?_
    refine sq h ?_ ?_<;>intro h
    ·refine cq 4 [4] [I (-1)] 545 ?_
     obtain rfl:=sI h
     exact rP [I (-1)]
    ·refine aq 1 ?_
     refine cq 5 [4] [I (ai (r3 - (len a_1.Repair)))] 561 ?_
     obtain rfl:=sI h
     exact rP [I (ai (r3 - (len a_1.Repair)))]
theorem Sj {G:bZ}:bV G 88 Bk:=gT 2 0 (aO So bz) cd Tryz.func88 (fun a r h=>WC a.1 a.2 r h)
def DU:((List Clause)×Int)→List V:=cA (fG ap) (oA I)
def DV (r:Int):V×List V:=(I r,[])
noncomputable def Bm :=bi [false,false] DU DV fun x=>Bl x.1 x.2
theorem abW {a_1:List Clause}{aw:Int}{r}(h:Bl a_1 aw=some r):Bm.F (DU (a_1,aw))=some (DV r):=aH (aJ (bW dI) (aI bo)) h
noncomputable def Sl :=aF Tryz.f42
noncomputable def Li :=cb [(88,Bk)]
def Sk (x:(List Clause)×Int)(r:Int):St→Prop:=QF Li Tryz.f42 [false,false] (DU x) (DV r)
theorem NM (a_1:List Clause)(aw:Int):ch Li 0 (Sk (a_1,aw)) (cL (cL (cR (cL (cR (cR (cR Sl))))))) 0 (tw a_1 aw) (fun u=>(sT 27 [(1,I u)] [] 1)) fun x3=>(sT 27 [(0,.isl false (a_1.map ap)),(1,I x3.1),(5,I x3.2)] [] 1):=eg (zh a_1 aw) fun {Q K} hK self ih x3 y h hr hn=>by
 unfold nr at h
 refine cq 5 [12,13] [I x3.2,.isl false (a_1.map ap)] 33 ?_
 refine oq 49 (I (len a_1)) rfl (bu rfl rfl rfl (bG rfl)) ?_
 refine cq 2 [15] [B (decide (x3.2<(len a_1)))] 65 ?_
 refine sq h ?_ ?_<;>intro h
 ·refine aq 1 ?_
  refine cq 6 [18,19] [.isl false (a_1.map ap),I x3.2] 97 ?_
  obtain⟨e4,he4,h⟩:=bS h
  refine oq 113 (.iptr (ap e4) 0) rfl (ak rfl rfl rfl (ba rfl rfl rfl rfl he4)) ?_
  refine cq 2 [21,22] [ap e4,I x3.1] 145 ?_
  obtain⟨r5,hr5,h⟩:=bS h
  refine oq 161 (I r5) rfl (cP (abT hr5)) ?_
  refine cq 7 [1,25] [I r5,B (decide (r5<0))] 209 ?_
  refine sq h ?_ ?_<;>intro h
  ·refine cq 4 [4] [I (-1)] 225 ?_
   exact cr rfl (hr _ (aj h) _ (qp [I (-1)]))
  ·refine aq 1 ?_
   refine cq 6 [5] [I (ai (x3.2+1))] 257 ?_
   refine cZ ?_
   exact rf [0,1,5] [] (ih _ _ h hr hn :)
 ·refine aq 1 ?_
  exact rf [1] [] (hn _ (aj h) :) (hk:=hK)
theorem WD (a_1:List Clause)(aw:Int)(r:Int)(h:Bl a_1 aw=some r):br Li Tryz.f42 [false,false] 0 (DU (a_1,aw)) (DV r):=by
 show Run _ _ (Sk (a_1,aw) r) [.code Sl] _
 refine rI 27 [(0,.isl false (a_1.map ap)),(1,I aw)] [] 1 ?_
 unfold Bl at h
 refine cq 8 [6,7] [I aw,.isl false (a_1.map ap)] 49 ?_
 refine oq 65 (I (len a_1)) rfl (bu rfl rfl rfl (bG rfl)) ?_
 refine cq 9 [1,11] [I (ai (aw - (len a_1))),B (decide ((ai (aw - (len a_1)))<0))] 129 ?_
 refine sq h ?_ ?_<;>intro h
 ·refine cq 4 [4] [I (-1)] 145 ?_
  obtain rfl:=sI h
  exact rP [I (-1)]
 ·refine aq 1 ?_
  refine cq 6 [5] [I (0)] 145 ?_
  obtain⟨y6,hy6,hy61,hy62⟩:=bJ h
  refine bN rfl ?_
  refine rf [0,1,5] [] (NM a_1 aw rfl ((ai (aw - (len a_1))),0) _ hy6 (fun r' e st hq=>by rw[hy61 r' e] at hq;exact hq) fun u6 hu=>?_)
  replace h:=hy62 u6 hu
  refine cq 5 [4] [I u6] 33 ?_
  obtain rfl:=sI h
  exact rP [I u6]
theorem Sm {G:bZ}:bV G 42 Bm:=gT 2 0 (aO Sj bz) cd Tryz.func42 (fun a r h=>WD a.1 a.2 r h)
def DY:(Contract×Int)→List V:=cA aM (oA I)
def DZ (r:Int):V×List V:=(I r,[])
noncomputable def Bq :=bi [false,false] DY DZ fun x=>Bp x.1 x.2
theorem ab1 {a_1:Contract}{aw:Int}{r}(h:Bp a_1 aw=some r):Bq.F (DY (a_1,aw))=some (DZ r):=aH (aJ aU (aI bo)) h
noncomputable def ab4 :=aF Tryz.f12
noncomputable def Ss :=cb [(41,uZ),(42,Bm)]
def ab3 (x:Contract×Int)(r:Int):St→Prop:=QF Ss Tryz.f12 [false,false] (DY x) (DZ r)
theorem WH (a_1:Contract)(aw:Int)(r:Int)(h:Bp a_1 aw=some r):br Ss Tryz.f12 [false,false] 0 (DY (a_1,aw)) (DZ r):=by
 show Run _ _ (ab3 (a_1,aw) r) [.code ab4] _
 refine rI 18 [(0,aM a_1),(1,I aw)] [] 1 ?_
 unfold Bp at h
 refine ck 10 [2,6,7] [] [1] [] [.hp 1 0 [] 2 0 0,.isl false (a_1.Parties.map str),I aw] [some ⟨0,2,[aM a_1]⟩] 81 (by kernel_rfl) ?_
 obtain⟨r3,hr3,h⟩:=bS h
 refine oq 97 (I r3) rfl (cP (SC hr3)) ?_
 refine cq 8 [1,10] [I r3,B (decide (r3<0))] 145 ?_
 refine sq h ?_ ?_<;>intro h
 ·refine cq 4 [4] [I (-1)] 161 ?_
  obtain rfl:=sI h
  exact rP [I (-1)]
 ·refine aq 1 ?_
  refine cq 5 [12,13] [.isl false (a_1.Clauses.map ap),I r3] 193 ?_
  obtain⟨r4,hr4,h⟩:=bS h
  refine oq 209 (I r4) rfl (cP (abW hr4)) ?_
  refine cq 8 [1,16] [I r4,B (decide (r4<0))] 257 ?_
  refine sq h ?_ ?_<;>intro h
  ·refine cq 4 [4] [I (-1)] 273 ?_
   obtain rfl:=sI h
   exact rP [I (-1)]
  ·refine aq 1 ?_
   refine cq 5 [4] [I r4] 289 ?_
   obtain rfl:=sI h
   exact rP [I r4]
theorem Su {G:bZ}:bV G 12 Bq:=gT 2 0 (aO I3 (aO Sm bz)) cd Tryz.func12 (fun a r h=>WH a.1 a.2 r h)
def D1:((List Duty)×Int)→List V:=cA (fG ah) (oA I)
def D2 (r:Int):V×List V:=(I r,[])
noncomputable def Bs :=bi [false,false] D1 D2 fun x=>Br x.1 x.2
theorem ab5 {a_1:List Duty}{aw:Int}{r}(h:Br a_1 aw=some r):Bs.F (D1 (a_1,aw))=some (D2 r):=aH (aJ (bW ey) (aI bo)) h
noncomputable def ab7 :=aF Tryz.f53
noncomputable def Sv :=cb []
def ab6 (x:(List Duty)×Int)(r:Int):St→Prop:=QF Sv Tryz.f53 [false,false] (D1 x) (D2 r)
theorem WI (a_1:List Duty)(aw:Int)(r:Int)(h:Br a_1 aw=some r):br Sv Tryz.f53 [false,false] 0 (D1 (a_1,aw)) (D2 r):=by
 show Run _ _ (ab6 (a_1,aw) r) [.code ab7] _
 refine rI 12 [(0,.isl false (a_1.map ah)),(1,I aw)] [] 1 ?_
 unfold Br at h
 refine cq 8 [5,6] [I aw,.isl false (a_1.map ah)] 49 ?_
 refine oq 65 (I (len a_1)) rfl (bu rfl rfl rfl (bG rfl)) ?_
 refine cq 9 [1,10] [I (ai (aw - (len a_1))),B (decide ((ai (aw - (len a_1)))<0))] 129 ?_
 refine sq h ?_ ?_<;>intro h
 ·refine cq 4 [4] [I (-1)] 145 ?_
  obtain rfl:=sI h
  exact rP [I (-1)]
 ·refine aq 1 ?_
  refine cq 5 [4] [I (ai (aw - (len a_1)))] 161 ?_
  obtain rfl:=sI h
  exact rP [I (ai (aw - (len a_1)))]
theorem Sw {G:bZ}:bV G 53 Bs:=gT 2 0 bz cd Tryz.func53 (fun a r h=>WI a.1 a.2 r h)
def D3:((List Int)×Int)→List V:=cA (fG I) (oA I)
def D4 (r:Int):V×List V:=(I r,[])
noncomputable def Bu :=bi [false,false] D3 D4 fun x=>Bt x.1 x.2
theorem ab8 {a_1:List Int}{aw:Int}{r}(h:Bt a_1 aw=some r):Bu.F (D3 (a_1,aw))=some (D4 r):=aH (aJ (bW bo) (aI bo)) h
noncomputable def aca :=aF Tryz.f54
noncomputable def Sx :=cb []
def ab9 (x:(List Int)×Int)(r:Int):St→Prop:=QF Sx Tryz.f54 [false,false] (D3 x) (D4 r)
theorem WJ (a_1:List Int)(aw:Int)(r:Int)(h:Bt a_1 aw=some r):br Sx Tryz.f54 [false,false] 0 (D3 (a_1,aw)) (D4 r):=by
 show Run _ _ (ab9 (a_1,aw) r) [.code aca] _
 refine rI 12 [(0,.isl false (a_1.map I)),(1,I aw)] [] 1 ?_
 unfold Bt at h
 refine cq 8 [5,6] [I aw,.isl false (a_1.map I)] 49 ?_
 refine oq 65 (I (len a_1)) rfl (bu rfl rfl rfl (bG rfl)) ?_
 refine cq 9 [1,10] [I (ai (aw - (len a_1))),B (decide ((ai (aw - (len a_1)))<0))] 129 ?_
 refine sq h ?_ ?_<;>intro h
 ·refine cq 4 [4] [I (-1)] 145 ?_
  obtain rfl:=sI h
  exact rP [I (-1)]
 ·refine aq 1 ?_
  refine cq 5 [4] [I (ai (aw - (len a_1)))] 161 ?_
  obtain rfl:=sI h
  exact rP [I (ai (aw - (len a_1)))]
theorem Sz {G:bZ}:bV G 54 Bu:=gT 2 0 bz cd Tryz.func54 (fun a r h=>WJ a.1 a.2 r h)
def D5:(State×Int)→List V:=cA bH (oA I)
def D6 (r:Int):V×List V:=(I r,[])
noncomputable def Bw :=bi [false,false] D5 D6 fun x=>Bv x.1 x.2
theorem acb {a_1:State}{aw:Int}{r}(h:Bv a_1 aw=some r):Bw.F (D5 (a_1,aw))=some (D6 r):=aH (aJ bP (aI bo)) h
noncomputable def ace :=aF Tryz.f21
noncomputable def SA :=cb [(41,uZ),(53,Bs),(54,Bu)]
def acd (x:State×Int)(r:Int):St→Prop:=QF SA Tryz.f21 [false,false] (D5 x) (D6 r)
theorem WL (a_1:State)(aw:Int)(r:Int)(h:Bv a_1 aw=some r):br SA Tryz.f21 [false,false] 0 (D5 (a_1,aw)) (D6 r):=by
 show Run _ _ (acd (a_1,aw) r) [.code ace] _
 refine rI 24 [(0,bH a_1),(1,I aw)] [] 1 ?_
 unfold Bv at h
 refine ck 10 [2,6,7] [] [1] [] [.hp 1 0 [] 5 0 0,.isl false (a_1.Facts.map str),I aw] [some ⟨0,5,[bH a_1]⟩] 81 (by kernel_rfl) ?_
 obtain⟨r3,hr3,h⟩:=bS h
 refine oq 97 (I r3) rfl (cP (SC hr3)) ?_
 refine cq 8 [1,10] [I r3,B (decide (r3<0))] 145 ?_
 refine sq h ?_ ?_<;>intro h
 ·refine cq 4 [4] [I (-1)] 161 ?_
  obtain rfl:=sI h
  exact rP [I (-1)]
 ·refine aq 1 ?_
  refine cq 5 [12,13] [.isl false (a_1.Duties.map ah),I r3] 193 ?_
  obtain⟨r4,hr4,h⟩:=bS h
  refine oq 209 (I r4) rfl (cP (ab5 hr4)) ?_
  refine cq 8 [1,16] [I r4,B (decide (r4<0))] 257 ?_
  refine sq h ?_ ?_<;>intro h
  ·refine cq 4 [4] [I (-1)] 273 ?_
   obtain rfl:=sI h
   exact rP [I (-1)]
  ·refine aq 1 ?_
   refine cq 5 [18,19] [.isl false (a_1.Balances.map I),I r4] 305 ?_
   obtain⟨r5,hr5,h⟩:=bS h
   refine oq 321 (I r5) rfl (cP (ab8 hr5)) ?_
   refine cq 8 [1,22] [I r5,B (decide (r5<0))] 369 ?_
   refine sq h ?_ ?_<;>intro h
   ·refine cq 4 [4] [I (-1)] 385 ?_
    obtain rfl:=sI h
    exact rP [I (-1)]
   ·refine aq 1 ?_
    refine cq 5 [4] [I r5] 401 ?_
    obtain rfl:=sI h
    exact rP [I r5]
theorem SB {G:bZ}:bV G 21 Bw:=gT 2 0 (aO I3 (aO Sw (aO Sz bz))) cd Tryz.func21 (fun a r h=>WL a.1 a.2 r h)
def Ep:(List ac)→List V:=oA (fG str)
def Eq (r:(List ac)):V×List V:=(.usl 1 (r.map str),[])
noncomputable def vc :=bi [false] Ep Eq fun x=>wP x
theorem S1 {a_1:List ac}{r}(h:wP a_1=some r):vc.F (Ep a_1)=some (Eq r):=aH (aI (bW bT)) h
noncomputable def S3 :=aF Tryz.f45
noncomputable def Ls :=cb []
def S2 (x:(List ac))(r:(List ac)):St→Prop:=QF Ls Tryz.f45 [false] (Ep x) (Eq r)
theorem NT (a_1:List ac):ch Ls 0 (S2 a_1) (cL (cL (cR (cL (cR (cR S3)))))) 0 (tE a_1) (fun u=>(sT 22 [(3,.hs 1 0 [] 1 0 (u.map str).length)] [⟨0,1,u.map str⟩] 2)) fun x3=>(sT 22 [(0,.isl false (a_1.map str)),(3,.hs 1 0 [] 1 0 (x3.2.map str).length),(4,I x3.1)] [⟨0,1,x3.2.map str⟩] 2):=eg (zo a_1) fun {Q K} hK self ih x3 y h hr hn=>by
 unfold nA at h
 refine cq 5 [8,9] [I x3.1,.isl false (a_1.map str)] 34 ?_
 refine oq 50 (I (len a_1)) rfl (bu rfl rfl rfl (bG rfl)) ?_
 refine cq 2 [11] [B (decide (x3.1<(len a_1)))] 66 ?_
 refine sq h ?_ ?_<;>intro h
 ·refine aq 1 ?_
  refine cq 7 [14,15,16,17] [.hs 1 0 [] 1 0 (x3.2.map str).length,I x3.1,.isl false (a_1.map str),I x3.1] 130 ?_
  obtain⟨e4,he4,h⟩:=bS h
  refine oq 146 (.iptr (str e4) 0) rfl (ak rfl rfl rfl (ba rfl rfl rfl rfl he4)) ?_
  refine cq 1 [19] [str e4] 162 ?_
  obtain⟨e5,he5,h⟩:=bS h
  refine oq 178 (.hp 1 0 [] 1 (0+Int.toNat x3.1) 0) rfl (ak rfl rfl rfl (dU (f:=str) (xs:=x3.2) rfl rfl rfl he5)) ?_
  refine o0 194 rfl rfl (fW rfl rfl (fh (path:=[]) (pl:=true) (e':=str e4) (es2':=(dj x3.2 x3.1 e4).map str) rfl (dT rfl) rfl rfl rfl aX (dh (f:=str) (xs:=x3.2) he5) rfl rfl rfl (iH (f:=str) (xs:=x3.2) (y:=e4)) eG 0 rfl)) ?_
  try rw[←gR (f:=str) (xs:=x3.2) (i:=x3.1) (z:=e4)]
  refine cq 7 [4] [I (ai (x3.1+1))] 242 ?_
  refine cZ ?_
  exact rf [0,3,4] [1] (ih _ _ h hr hn :)
 ·refine aq 1 ?_
  exact rf [3] [1] (hn _ (aj h) :) (hk:=hK)
theorem WX (a_1:List ac)(r:(List ac))(h:wP a_1=some r):br Ls Tryz.f45 [false] 0 (Ep a_1) (Eq r):=by
 show Run _ _ (S2 a_1 r) [.code S3] _
 refine rI 22 [(0,.isl false (a_1.map str))] [] 1 ?_
 unfold wP at h
 refine cq 7 [5] [.isl false (a_1.map str)] 33 ?_
 refine oq 49 (I (len a_1)) rfl (bu rfl rfl rfl (bG rfl)) ?_
 obtain⟨m2,hm2,h⟩:=bS h
 refine oq 65 (.hs 49 0 [] 1 0 (m2.map str).length) rfl (kY rfl rfl (Hi (f:=str) rfl rfl rfl (by decide) hm2 rfl)) ?_
 refine cq 8 [3,4] [.hs 49 0 [] 1 0 (m2.map str).length,I (0)] 97 ?_
 obtain⟨y6,hy6,hy61,hy62⟩:=bJ h
 refine bN rfl ?_
 refine rf [0,3,4] [49] (NT a_1 rfl (0,m2) _ hy6 (fun r' e st hq=>by rw[hy61 r' e] at hq;exact hq) fun u6 hu=>?_)
 replace h:=hy62 u6 hu
 refine cq 5 [2] [.hs 1 0 [] 1 0 (u6.map str).length] 34 ?_
 obtain rfl:=sI h
 exact cr rfl ⟨_,fin (vs:=[.hs 1 0 [] 1 0 (u6.map str).length]) rfl (gC (gk rfl (dZ rfl rfl)) eI) rfl (dw fD),fz⟩
theorem I4 {G:bZ}:bV G 45 vc:=gT 1 0 bz cd Tryz.func45 (fun a r h=>WX a r h)
def wJ:Condition→List V:=oA bF
def wK (r:Condition):V×List V:=(qr r,[])
noncomputable def sd (bw:Condition→Option Condition):Ent:=bi [false] wJ wK bw
theorem O2 (bw:Condition→Option Condition){x}{r}(h:bw x=some r):(sd bw).F (wJ x)=some (wK r):=aH (aI dC) h
def Ed:(List Condition)→List V:=oA (fG aE)
def Ee (r:(List Condition)):V×List V:=(.usl 4 (r.map aC),[])
noncomputable def BD (bw:Condition→Option Condition):Ent:=bi [false] Ed Ee fun x=>wL bw x
theorem acm (bw:Condition→Option Condition){a_1:List Condition}{r}(h:wL bw a_1=some r):(BD bw).F (Ed a_1)=some (Ee r):=aH (aI (bW fC)) h
noncomputable def SN :=aF Tryz.f174
noncomputable def Lp (bw:Condition→Option Condition):Env:=cb [(139,(sd bw))]
def SM (bw:Condition→Option Condition)(x:(List Condition))(r:(List Condition)):St→Prop:=QF (Lp bw) Tryz.f174 [false] (Ed x) (Ee r)
theorem NQ (bw:Condition→Option Condition)(a_1:List Condition):ch (Lp bw) 0 (SM bw a_1) (cL (cL (cR (cL (cR (cR SN)))))) 0 (qV bw a_1) (fun u=>(sT 23 [(3,.hs 1 0 [] 4 0 (u.map aC).length)] [⟨0,4,u.map aC⟩] 2)) fun x3=>(sT 23 [(0,.isl false (a_1.map aE)),(3,.hs 1 0 [] 4 0 (x3.2.map aC).length),(4,I x3.1)] [⟨0,4,x3.2.map aC⟩] 2):=eg (zl bw a_1) fun {Q K} hK self ih x3 y h hr hn=>by
 unfold lu at h
 refine cq 5 [8,9] [I x3.1,.isl false (a_1.map aE)] 34 ?_
 refine oq 50 (I (len a_1)) rfl (bu rfl rfl rfl (bG rfl)) ?_
 refine cq 2 [11] [B (decide (x3.1<(len a_1)))] 66 ?_
 refine sq h ?_ ?_<;>intro h
 ·refine aq 1 ?_
  refine cq 7 [14,15,16,17] [.hs 1 0 [] 4 0 (x3.2.map aC).length,I x3.1,.isl false (a_1.map aE),I x3.1] 130 ?_
  obtain⟨e4,he4,h⟩:=bS h
  refine oq 146 (.iptr (bF e4) 0) rfl (ak rfl rfl rfl (ba rfl rfl (dA e4) rfl he4)) ?_
  refine cq 1 [19] [bF e4] 162 ?_
  obtain⟨r5,hr5,h⟩:=bS h
  refine oq 178 (.agg [I r5.Op,str r5.Name,I r5.Day,.hs 162 0 [] 4 0 (r5.Parts.map aC).length]) rfl (b8 rfl rfl (cu rfl rfl rfl (bd (bM rfl) dx) (O2 bw hr5) (.inr rfl) ec rfl rfl rfl)) ?_
  obtain⟨e6,he6,h⟩:=bS h
  refine oq 194 (.hp 1 0 [] 4 (0+Int.toNat x3.1) 0) rfl (ak rfl rfl rfl (dU (f:=aC) (xs:=x3.2) rfl rfl rfl he6)) ?_
  refine o0 210 rfl rfl (fW rfl rfl (fh (path:=[]) (pl:=false) (e':=qr r5) (es2':=(dj x3.2 x3.1 r5).map aC) rfl (po (cH (dm rfl) (cH (dm rfl) (cH (dm rfl) (cH (dZ rfl rfl) pq))))) rfl rfl rfl aX (YA (f:=aC) (xs:=x3.2) (mF e6) he6) rfl rfl rfl (YX (f:=aC) (xs:=x3.2) (mF r5)) eG 1 rfl)) ?_
  try rw[←gR (f:=aC) (xs:=x3.2) (i:=x3.1) (z:=r5)]
  refine cq 7 [4] [I (ai (x3.1+1))] 258 ?_
  refine cZ ?_
  exact rf [0,3,4] [1] (ih _ _ h hr hn :)
 ·refine aq 1 ?_
  exact rf [3] [1] (hn _ (aj h) :) (hk:=hK)
theorem WR (bw:Condition→Option Condition)(a_1:List Condition)(r:(List Condition))(h:wL bw a_1=some r):br (Lp bw) Tryz.f174 [false] 0 (Ed a_1) (Ee r):=by
 show Run _ _ (SM bw a_1 r) [.code SN] _
 refine rI 23 [(0,.isl false (a_1.map aE))] [] 1 ?_
 unfold wL at h
 refine cq 7 [5] [.isl false (a_1.map aE)] 33 ?_
 refine oq 49 (I (len a_1)) rfl (bu rfl rfl rfl (bG rfl)) ?_
 obtain⟨m2,hm2,h⟩:=bS h
 refine oq 65 (.hs 49 0 [] 4 0 (m2.map aC).length) rfl (kY rfl rfl (VH (g:=aC) (f:=fun _=>(.agg [I (0),str ([]),I (0),.isl true []]:V)) (z0:=(Condition.mk 0 [] 0 [])) rfl rfl rfl (by decide) hm2 rfl)) ?_
 refine fP 49 (m2.map aC) rfl rfl (MJ hm2 ((mF _).symm▸hY (aP (.refl _) (aP (.refl _) (aP (.refl _) (aP (.nil _) eT)))))) ?_
 refine cq 8 [3,4] [.hs 49 0 [] 4 0 (m2.map aC).length,I (0)] 97 ?_
 obtain⟨y7,hy7,hy71,hy72⟩:=bJ h
 refine bN rfl ?_
 refine rf [0,3,4] [49] (NQ bw a_1 rfl (0,m2) _ hy7 (fun r' e st hq=>by rw[hy71 r' e] at hq;exact hq) fun u7 hu=>?_)
 replace h:=hy72 u7 hu
 refine cq 5 [2] [.hs 1 0 [] 4 0 (u7.map aC).length] 34 ?_
 obtain rfl:=sI h
 exact cr rfl ⟨_,fin (vs:=[.hs 1 0 [] 4 0 (u7.map aC).length]) rfl (gC (gk rfl (dZ rfl rfl)) eI) rfl (dw fD),fz⟩
theorem SO {G:bZ}(bw:Condition→Option Condition)(MU:bV G 139 (sd bw)):bV G 174 (BD bw):=gT 1 0 (aO MU bz) cd Tryz.func174 (fun a r h=>WR bw a r h)
noncomputable def BC :=sd (aL pW)
theorem acj {a_1:Condition}{r}(h:BB a_1=some r):BC.F (wJ a_1)=some (wK r):=O2 (aL pW) h
noncomputable def acl :=aF Tryz.f139
noncomputable def SK (bw:Condition→Option Condition):Env:=cb [(174,(BD bw))]
def ack (bw:Condition→Option Condition)(x:Condition)(r:Condition):St→Prop:=QF (SK bw) Tryz.f139 [false] (wJ x) (wK r)
theorem WQ (bw:Condition→Option Condition)(a_1:Condition)(r:Condition)(h:tB bw a_1=some r):br (SK bw) Tryz.f139 [false] 0 (wJ a_1) (wK r):=by
 show Run _ _ (ack bw a_1 r) [.code acl] _
 refine rI 18 [(0,bF a_1)] [] 1 ?_
 unfold tB at h
 refine ck 4 [1,2] [] [1,17] [] [.hp 1 0 [] 4 0 0,.hp 17 0 [] 4 0 0] [some ⟨0,4,[bF a_1]⟩,some ⟨0,4,[.agg [I (0),str ([]),I (0),.isl true []]]⟩] 33 (by kernel_rfl) ?_
 refine fP 17 [.agg [I (0),str ([]),I (0),.usl 4 (([]).map aC)]] rfl rfl (aP (hY (aP (.refl _) (aP (.refl _) (aP (.refl _) (aP (.nil _) eT))))) eT) ?_
 refine ck 4 [3] [] [33] [] [.hp 33 0 [] 4 0 0] [some ⟨0,4,[.agg [I (0),str ([]),I (0),.isl true []]]⟩] 49 (by kernel_rfl) ?_
 refine fP 33 [.agg [I (0),str ([]),I (0),.usl 4 (([]).map aC)]] rfl rfl (aP (hY (aP (.refl _) (aP (.refl _) (aP (.refl _) (aP (.nil _) eT))))) eT) ?_
 refine ck 26 [14] [] [33] [] [.isl false (a_1.Parts.map aE)] [some ⟨1,4,[.agg [I a_1.Op,str a_1.Name,I a_1.Day,.usl 4 (([]).map aC)]]⟩] 273 (by kernel_rfl) ?_
 obtain⟨r2,hr2,h⟩:=bS h
 refine oq 289 (.hs 273 0 [] 4 0 (r2.map aC).length) rfl (b8 rfl rfl (cu rfl rfl rfl (bd (bM rfl) dx) (acm bw hr2) (.inr rfl) ec rfl rfl rfl)) ?_
 refine cq 1 [16] [.hp 33 0 [] 4 0 3] 305 ?_
 refine o0 321 rfl rfl (fW rfl rfl (fh (path:=[]) (pl:=false) (e':=.agg [I a_1.Op,str a_1.Name,I a_1.Day,.usl 4 (r2.map aC)]) (es2':=[.agg [I a_1.Op,str a_1.Name,I a_1.Day,.usl 4 (r2.map aC)]]) rfl (gk rfl (dZ rfl rfl)) rfl rfl rfl aX rfl rfl rfl rfl rfl eG 2 rfl)) ?_
 refine cq 4 [17] [.agg [I a_1.Op,str a_1.Name,I a_1.Day,.hs 33 2 [(0,3)] 4 0 (r2.map aC).length]] 337 ?_
 refine o0 353 rfl rfl (fW rfl rfl (fh (path:=[]) (pl:=false) (e':=.agg [I a_1.Op,str a_1.Name,I a_1.Day,.usl 4 (r2.map aC)]) (es2':=[.agg [I a_1.Op,str a_1.Name,I a_1.Day,.usl 4 (r2.map aC)]]) rfl (po (cH (dm rfl) (cH (dm rfl) (cH (dm rfl) (cH (iL (path:=[(0,3)]) rfl rfl (gw rfl rfl aX) rfl (oW (path:=[]) (i:=0) (k:=3) (e':=.agg [I a_1.Op,str a_1.Name,I a_1.Day,.dead]) (es2':=[.agg [I a_1.Op,str a_1.Name,I a_1.Day,.dead]]) aX rfl rfl rfl eG)) pq))))) rfl rfl rfl aX rfl rfl rfl rfl rfl eG 2 rfl)) ?_
 refine aq 1 ?_
 obtain rfl:=sI h
 exact cr rfl ⟨_,fin (vs:=[.agg [I a_1.Op,str a_1.Name,I a_1.Day,.hs 17 2 [(0,3)] 4 0 (r2.map aC).length]]) (Nr (uQ rfl rfl rfl) Ns) (gC (po (cH (dm rfl) (cH (dm rfl) (cH (dm rfl) (cH (iL (path:=[(0,3)]) rfl rfl (gw rfl rfl aX) rfl (oW (path:=[]) (i:=0) (k:=3) (e':=.agg [I a_1.Op,str a_1.Name,I a_1.Day,.dead]) (es2':=[.agg [I a_1.Op,str a_1.Name,I a_1.Day,.dead]]) aX rfl rfl rfl eG)) pq))))) eI) rfl (dw fD),fz⟩
theorem SL {G:bZ}:bV G 139 BC:=kx fun bw MU=>gT 1 0 (aO (SO bw MU) bz) cd Tryz.func139 (fun a r h=>WQ bw a r h)
def D9:Clause→List V:=oA ap
def Ea (r:Clause):V×List V:=(uU r,[])
noncomputable def Bx :=bi [false] D9 Ea fun x=>wI x
theorem acf {a_1:Clause}{r}(h:wI a_1=some r):Bx.F (D9 a_1)=some (Ea r):=aH (aI dI) h
noncomputable def ach :=aF Tryz.f97
noncomputable def SF :=cb [(139,BC)]
def acg (x:Clause)(r:Clause):St→Prop:=QF SF Tryz.f97 [false] (D9 x) (Ea r)
theorem WN (a_1:Clause)(r:Clause)(h:wI a_1=some r):br SF Tryz.f97 [false] 0 (D9 a_1) (Ea r):=by
 show Run _ _ (acg a_1 r) [.code ach] _
 refine rI 33 [(0,ap a_1)] [] 1 ?_
 unfold wI at h
 refine ck 4 [1,2] [] [1,17] [] [.hp 1 0 [] 12 0 0,.hp 17 0 [] 12 0 0] [some ⟨0,12,[ap a_1]⟩,some ⟨0,12,[.agg [str ([]),I (0),I (0),str ([]),I (0),I (0),I (0),str ([]),I (0),.isl true [],I (0),str ([])]]⟩] 33 (by kernel_rfl) ?_
 refine fP 17 [.agg [str ([]),I (0),I (0),str ([]),I (0),I (0),I (0),str ([]),I (0),.usl 4 (([]).map aC),I (0),str ([])]] rfl rfl (aP (hY (aP (.refl _) (aP (.refl _) (aP (.refl _) (aP (.refl _) (aP (.refl _) (aP (.refl _) (aP (.refl _) (aP (.refl _) (aP (.refl _) (aP (.nil _) (aP (.refl _) (aP (.refl _) eT))))))))))))) eT) ?_
 refine ck 4 [3] [] [33] [] [.hp 33 0 [] 12 0 0] [some ⟨0,12,[.agg [str ([]),I (0),I (0),str ([]),I (0),I (0),I (0),str ([]),I (0),.isl true [],I (0),str ([])]]⟩] 49 (by kernel_rfl) ?_
 refine fP 33 [.agg [str ([]),I (0),I (0),str ([]),I (0),I (0),I (0),str ([]),I (0),.usl 4 (([]).map aC),I (0),str ([])]] rfl rfl (aP (hY (aP (.refl _) (aP (.refl _) (aP (.refl _) (aP (.refl _) (aP (.refl _) (aP (.refl _) (aP (.refl _) (aP (.refl _) (aP (.refl _) (aP (.nil _) (aP (.refl _) (aP (.refl _) eT))))))))))))) eT) ?_
 refine ck 47 [23] [] [33] [] [bF a_1.When] [some ⟨1,12,[.agg [str a_1.Id,I a_1.Kind,I a_1.Party,str a_1.Action,I a_1.Other,I a_1.Amount,I (0),str ([]),I (0),.usl 4 (([]).map aC),I (0),str ([])]]⟩] 465 (by kernel_rfl) ?_
 obtain⟨r2,hr2,h⟩:=bS h
 refine oq 481 (.agg [I r2.Op,str r2.Name,I r2.Day,.hs 465 0 [] 4 0 (r2.Parts.map aC).length]) rfl (cP (acj hr2)) ?_
 refine cq 1 [25] [.hp 33 0 [] 12 0 6] 497 ?_
 refine o0 513 rfl rfl (fW rfl rfl (fh (path:=[]) (pl:=false) (e':=.agg [str a_1.Id,I a_1.Kind,I a_1.Party,str a_1.Action,I a_1.Other,I a_1.Amount,I r2.Op,str r2.Name,I r2.Day,.usl 4 (r2.Parts.map aC),I (0),str ([])]) (es2':=[.agg [str a_1.Id,I a_1.Kind,I a_1.Party,str a_1.Action,I a_1.Other,I a_1.Amount,I r2.Op,str r2.Name,I r2.Day,.usl 4 (r2.Parts.map aC),I (0),str ([])]]) rfl (po (cH (dm rfl) (cH (dm rfl) (cH (dm rfl) (cH (dZ rfl rfl) pq))))) rfl rfl rfl aX rfl rfl rfl rfl rfl eG 2 rfl)) ?_
 refine ck 18 [32] [] [33] [] [.agg [str a_1.Id,I a_1.Kind,I a_1.Party,str a_1.Action,I a_1.Other,I a_1.Amount,I r2.Op,str r2.Name,I r2.Day,.hs 33 2 [(0,9)] 4 0 (r2.Parts.map aC).length,I a_1.Within,str a_1.Repair]] [some ⟨2,12,[.agg [str a_1.Id,I a_1.Kind,I a_1.Party,str a_1.Action,I a_1.Other,I a_1.Amount,I r2.Op,str r2.Name,I r2.Day,.usl 4 (r2.Parts.map aC),I a_1.Within,str a_1.Repair]]⟩] 657 (by kernel_rfl) ?_
 refine o0 673 rfl rfl (fW rfl rfl (fh (path:=[]) (pl:=false) (e':=.agg [str a_1.Id,I a_1.Kind,I a_1.Party,str a_1.Action,I a_1.Other,I a_1.Amount,I r2.Op,str r2.Name,I r2.Day,.usl 4 (r2.Parts.map aC),I a_1.Within,str a_1.Repair]) (es2':=[.agg [str a_1.Id,I a_1.Kind,I a_1.Party,str a_1.Action,I a_1.Other,I a_1.Amount,I r2.Op,str r2.Name,I r2.Day,.usl 4 (r2.Parts.map aC),I a_1.Within,str a_1.Repair]]) rfl (po (cH (dm rfl) (cH (dm rfl) (cH (dm rfl) (cH (dm rfl) (cH (dm rfl) (cH (dm rfl) (cH (dm rfl) (cH (dm rfl) (cH (dm rfl) (cH (iL (path:=[(0,9)]) rfl rfl (gw rfl rfl aX) rfl (oW (path:=[]) (i:=0) (k:=9) (e':=.agg [str a_1.Id,I a_1.Kind,I a_1.Party,str a_1.Action,I a_1.Other,I a_1.Amount,I r2.Op,str r2.Name,I r2.Day,.dead,I a_1.Within,str a_1.Repair]) (es2':=[.agg [str a_1.Id,I a_1.Kind,I a_1.Party,str a_1.Action,I a_1.Other,I a_1.Amount,I r2.Op,str r2.Name,I r2.Day,.dead,I a_1.Within,str a_1.Repair]]) aX rfl rfl rfl eG)) (cH (dm rfl) (cH (dm rfl) pq))))))))))))) rfl rfl rfl aX rfl rfl rfl rfl rfl eG 2 rfl)) ?_
 refine aq 1 ?_
 obtain rfl:=sI h
 exact cr rfl ⟨_,fin (vs:=[.agg [str a_1.Id,I a_1.Kind,I a_1.Party,str a_1.Action,I a_1.Other,I a_1.Amount,I r2.Op,str r2.Name,I r2.Day,.hs 17 2 [(0,9)] 4 0 (r2.Parts.map aC).length,I a_1.Within,str a_1.Repair]]) (Nr (uQ rfl rfl rfl) Ns) (gC (po (cH (dm rfl) (cH (dm rfl) (cH (dm rfl) (cH (dm rfl) (cH (dm rfl) (cH (dm rfl) (cH (dm rfl) (cH (dm rfl) (cH (dm rfl) (cH (iL (path:=[(0,9)]) rfl rfl (gw rfl rfl aX) rfl (oW (path:=[]) (i:=0) (k:=9) (e':=.agg [str a_1.Id,I a_1.Kind,I a_1.Party,str a_1.Action,I a_1.Other,I a_1.Amount,I r2.Op,str r2.Name,I r2.Day,.dead,I a_1.Within,str a_1.Repair]) (es2':=[.agg [str a_1.Id,I a_1.Kind,I a_1.Party,str a_1.Action,I a_1.Other,I a_1.Amount,I r2.Op,str r2.Name,I r2.Day,.dead,I a_1.Within,str a_1.Repair]]) aX rfl rfl rfl eG)) (cH (dm rfl) (cH (dm rfl) pq))))))))))))) eI) rfl (dw fD),fz⟩
theorem SG {G:bZ}:bV G 97 Bx:=gT 1 0 (aO SL bz) cd Tryz.func97 (fun a r h=>WN a r h)
def Eb:(List Clause)→List V:=oA (fG ap)
def Ec (r:(List Clause)):V×List V:=(.usl 12 (r.map bb),[])
noncomputable def BA :=bi [false] Eb Ec fun x=>Bz x
theorem aci {a_1:List Clause}{r}(h:Bz a_1=some r):BA.F (Eb a_1)=some (Ec r):=aH (aI (bW dI)) h
noncomputable def SI :=aF Tryz.f46
noncomputable def Lo :=cb [(97,Bx)]
def SH (x:(List Clause))(r:(List Clause)):St→Prop:=QF Lo Tryz.f46 [false] (Eb x) (Ec r)
theorem NP (a_1:List Clause):ch Lo 0 (SH a_1) (cL (cL (cR (cL (cR (cR SI)))))) 0 (tA a_1) (fun u=>(sT 23 [(3,.hs 1 0 [] 12 0 (u.map bb).length)] [⟨0,12,u.map bb⟩] 2)) fun x3=>(sT 23 [(0,.isl false (a_1.map ap)),(3,.hs 1 0 [] 12 0 (x3.2.map bb).length),(4,I x3.1)] [⟨0,12,x3.2.map bb⟩] 2):=eg (zk a_1) fun {Q K} hK self ih x3 y h hr hn=>by
 unfold nu at h
 refine cq 5 [8,9] [I x3.1,.isl false (a_1.map ap)] 34 ?_
 refine oq 50 (I (len a_1)) rfl (bu rfl rfl rfl (bG rfl)) ?_
 refine cq 2 [11] [B (decide (x3.1<(len a_1)))] 66 ?_
 refine sq h ?_ ?_<;>intro h
 ·refine aq 1 ?_
  refine cq 7 [14,15,16,17] [.hs 1 0 [] 12 0 (x3.2.map bb).length,I x3.1,.isl false (a_1.map ap),I x3.1] 130 ?_
  obtain⟨e4,he4,h⟩:=bS h
  refine oq 146 (.iptr (ap e4) 0) rfl (ak rfl rfl rfl (ba rfl rfl rfl rfl he4)) ?_
  refine cq 1 [19] [ap e4] 162 ?_
  obtain⟨r5,hr5,h⟩:=bS h
  refine oq 178 (.agg [str r5.Id,I r5.Kind,I r5.Party,str r5.Action,I r5.Other,I r5.Amount,I r5.When.Op,str r5.When.Name,I r5.When.Day,.hs 162 0 [] 4 0 (r5.When.Parts.map aC).length,I r5.Within,str r5.Repair]) rfl (cP (acf hr5)) ?_
  obtain⟨e6,he6,h⟩:=bS h
  refine oq 194 (.hp 1 0 [] 12 (0+Int.toNat x3.1) 0) rfl (ak rfl rfl rfl (dU (f:=bb) (xs:=x3.2) rfl rfl rfl he6)) ?_
  refine o0 210 rfl rfl (fW rfl rfl (fh (path:=[]) (pl:=false) (e':=uU r5) (es2':=(dj x3.2 x3.1 r5).map bb) rfl (po (cH (dm rfl) (cH (dm rfl) (cH (dm rfl) (cH (dm rfl) (cH (dm rfl) (cH (dm rfl) (cH (dm rfl) (cH (dm rfl) (cH (dm rfl) (cH (dZ rfl rfl) (cH (dm rfl) (cH (dm rfl) pq))))))))))))) rfl rfl rfl aX (dh (f:=bb) (xs:=x3.2) he6) rfl rfl rfl (iH (f:=bb) (xs:=x3.2) (y:=r5)) eG 1 rfl)) ?_
  try rw[←gR (f:=bb) (xs:=x3.2) (i:=x3.1) (z:=r5)]
  refine cq 7 [4] [I (ai (x3.1+1))] 258 ?_
  refine cZ ?_
  exact rf [0,3,4] [1] (ih _ _ h hr hn :)
 ·refine aq 1 ?_
  exact rf [3] [1] (hn _ (aj h) :) (hk:=hK)
theorem WO (a_1:List Clause)(r:(List Clause))(h:Bz a_1=some r):br Lo Tryz.f46 [false] 0 (Eb a_1) (Ec r):=by
 show Run _ _ (SH a_1 r) [.code SI] _
 refine rI 23 [(0,.isl false (a_1.map ap))] [] 1 ?_
 unfold Bz at h
 refine cq 7 [5] [.isl false (a_1.map ap)] 33 ?_
 refine oq 49 (I (len a_1)) rfl (bu rfl rfl rfl (bG rfl)) ?_
 obtain⟨m2,hm2,h⟩:=bS h
 refine oq 65 (.hs 49 0 [] 12 0 (m2.map bb).length) rfl (kY rfl rfl (VH (g:=bb) (f:=fun _=>(.agg [str ([]),I (0),I (0),str ([]),I (0),I (0),I (0),str ([]),I (0),.isl true [],I (0),str ([])]:V)) (z0:=(Clause.mk [] 0 0 [] 0 0 (Condition.mk 0 [] 0 []) 0 [])) rfl rfl rfl (by decide) hm2 rfl)) ?_
 refine fP 49 (m2.map bb) rfl rfl (MJ hm2 (hY (aP (.refl _) (aP (.refl _) (aP (.refl _) (aP (.refl _) (aP (.refl _) (aP (.refl _) (aP (.refl _) (aP (.refl _) (aP (.refl _) (aP (.nil _) (aP (.refl _) (aP (.refl _) eT)))))))))))))) ?_
 refine cq 8 [3,4] [.hs 49 0 [] 12 0 (m2.map bb).length,I (0)] 97 ?_
 obtain⟨y7,hy7,hy71,hy72⟩:=bJ h
 refine bN rfl ?_
 refine rf [0,3,4] [49] (NP a_1 rfl (0,m2) _ hy7 (fun r' e st hq=>by rw[hy71 r' e] at hq;exact hq) fun u7 hu=>?_)
 replace h:=hy72 u7 hu
 refine cq 5 [2] [.hs 1 0 [] 12 0 (u7.map bb).length] 34 ?_
 obtain rfl:=sI h
 exact cr rfl ⟨_,fin (vs:=[.hs 1 0 [] 12 0 (u7.map bb).length]) rfl (gC (gk rfl (dZ rfl rfl)) eI) rfl (dw fD),fz⟩
theorem SJ {G:bZ}:bV G 46 BA:=gT 1 0 (aO SG bz) cd Tryz.func46 (fun a r h=>WO a r h)
def Ef:Contract→List V:=oA aM
def Eg (r:Contract):V×List V:=(.agg [.usl 1 (r.Parties.map str),.usl 12 (r.Clauses.map bb)],[])
noncomputable def BE :=bi [false] Ef Eg fun x=>va x
theorem wM {a_1:Contract}{r}(h:va a_1=some r):BE.F (Ef a_1)=some (Eg r):=aH (aI aU) h
noncomputable def aco :=aF Tryz.f14
noncomputable def SP :=cb [(45,vc),(46,BA)]
def acn (x:Contract)(r:Contract):St→Prop:=QF SP Tryz.f14 [false] (Ef x) (Eg r)
theorem WS (a_1:Contract)(r:Contract)(h:va a_1=some r):br SP Tryz.f14 [false] 0 (Ef a_1) (Eg r):=by
 show Run _ _ (acn a_1 r) [.code aco] _
 refine rI 13 [(0,aM a_1)] [] 1 ?_
 unfold va at h
 refine ck 4 [1,2] [] [1,17] [] [.hp 1 0 [] 2 0 0,.hp 17 0 [] 2 0 0] [some ⟨0,2,[aM a_1]⟩,some ⟨0,2,[.agg [.isl true [],.isl true []]]⟩] 33 (by kernel_rfl) ?_
 refine fP 17 [.agg [.usl 1 (([]).map str),.usl 12 (([]).map bb)]] rfl rfl (aP (hY (aP (.nil _) (aP (.nil _) eT))) eT) ?_
 refine ck 4 [3] [] [33] [] [.hp 33 0 [] 2 0 0] [some ⟨0,2,[.agg [.isl true [],.isl true []]]⟩] 49 (by kernel_rfl) ?_
 refine fP 33 [.agg [.usl 1 (([]).map str),.usl 12 (([]).map bb)]] rfl rfl (aP (hY (aP (.nil _) (aP (.nil _) eT))) eT) ?_
 refine cq 5 [5] [.isl false (a_1.Parties.map str)] 81 ?_
 obtain⟨r2,hr2,h⟩:=bS h
 refine oq 97 (.hs 81 0 [] 1 0 (r2.map str).length) rfl (cP (S1 hr2)) ?_
 refine cq 1 [7] [.hp 33 0 [] 2 0 0] 113 ?_
 refine o0 129 rfl rfl (fW rfl rfl (fh (path:=[]) (pl:=false) (e':=.agg [.usl 1 (r2.map str),.usl 12 (([]).map bb)]) (es2':=[.agg [.usl 1 (r2.map str),.usl 12 (([]).map bb)]]) rfl (gk rfl (dZ rfl rfl)) rfl rfl rfl aX rfl rfl rfl rfl rfl eG 2 rfl)) ?_
 refine cq 5 [9] [.isl false (a_1.Clauses.map ap)] 161 ?_
 obtain⟨r3,hr3,h⟩:=bS h
 refine oq 177 (.hs 161 0 [] 12 0 (r3.map bb).length) rfl (cP (aci hr3)) ?_
 refine cq 1 [11] [.hp 33 0 [] 2 0 1] 193 ?_
 refine o0 209 rfl rfl (fW rfl rfl (fh (path:=[]) (pl:=false) (e':=.agg [.usl 1 (r2.map str),.usl 12 (r3.map bb)]) (es2':=[.agg [.usl 1 (r2.map str),.usl 12 (r3.map bb)]]) rfl (gk rfl (dZ rfl rfl)) rfl rfl rfl aX rfl rfl rfl rfl rfl eG 3 rfl)) ?_
 refine cq 4 [12] [.agg [.hs 33 3 [(0,0)] 1 0 (r2.map str).length,.hs 33 3 [(0,1)] 12 0 (r3.map bb).length]] 225 ?_
 refine o0 241 rfl rfl (fW rfl rfl (fh (path:=[]) (pl:=false) (e':=.agg [.usl 1 (r2.map str),.usl 12 (r3.map bb)]) (es2':=[.agg [.usl 1 (r2.map str),.usl 12 (r3.map bb)]]) rfl (po (cH (iL (path:=[(0,0)]) rfl rfl (gw rfl rfl aX) rfl (oW (path:=[]) (i:=0) (k:=0) (e':=.agg [.dead,.usl 12 (r3.map bb)]) (es2':=[.agg [.dead,.usl 12 (r3.map bb)]]) aX rfl rfl rfl eG)) (cH (iL (path:=[(0,1)]) rfl rfl (gw rfl rfl aX) rfl (oW (path:=[]) (i:=0) (k:=1) (e':=.agg [.dead,.dead]) (es2':=[.agg [.dead,.dead]]) aX rfl rfl rfl eG)) pq))) rfl rfl rfl aX rfl rfl rfl rfl rfl eG 2 rfl)) ?_
 refine aq 1 ?_
 obtain rfl:=sI h
 exact cr rfl ⟨_,fin (vs:=[.agg [.hs 17 2 [(0,0)] 1 0 (r2.map str).length,.hs 17 2 [(0,1)] 12 0 (r3.map bb).length]]) (Nr (uQ rfl rfl rfl) Ns) (gC (po (cH (iL (path:=[(0,0)]) rfl rfl (gw rfl rfl aX) rfl (oW (path:=[]) (i:=0) (k:=0) (e':=.agg [.dead,.usl 12 (r3.map bb)]) (es2':=[.agg [.dead,.usl 12 (r3.map bb)]]) aX rfl rfl rfl eG)) (cH (iL (path:=[(0,1)]) rfl rfl (gw rfl rfl aX) rfl (oW (path:=[]) (i:=0) (k:=1) (e':=.agg [.dead,.dead]) (es2':=[.agg [.dead,.dead]]) aX rfl rfl rfl eG)) pq))) eI) rfl (dw fD),fz⟩
theorem SQ {G:bZ}:bV G 14 BE:=gT 1 0 (aO I4 (aO SJ bz)) cd Tryz.func14 (fun a r h=>WS a r h)
def Eh:Duty→List V:=oA ah
def Ei (r:Duty):V×List V:=(ah r,[])
noncomputable def BF :=bi [false] Eh Ei fun x=>wN x
theorem acp {a_1:Duty}{r}(h:wN a_1=some r):BF.F (Eh a_1)=some (Ei r):=aH (aI ey) h
noncomputable def acr :=aF Tryz.f108
noncomputable def SR :=cb []
def acq (x:Duty)(r:Duty):St→Prop:=QF SR Tryz.f108 [false] (Eh x) (Ei r)
theorem WT (a_1:Duty)(r:Duty)(h:wN a_1=some r):br SR Tryz.f108 [false] 0 (Eh a_1) (Ei r):=by
 show Run _ _ (acq a_1 r) [.code acr] _
 refine rI 17 [(0,ah a_1)] [] 1 ?_
 unfold wN at h
 refine ck 42 [2] [] [17] [] [.hp 17 0 [] 4 0 0] [some ⟨0,4,[ah a_1]⟩] 337 (by kernel_rfl) ?_
 obtain rfl:=sI h
 exact cr rfl ⟨_,fin (vs:=[ah a_1]) (Nr (uQ rfl rfl rfl) Ns) (gC (dT rfl) eI) rfl (dw fD),fz⟩
theorem SS {G:bZ}:bV G 108 BF:=gT 1 0 bz cd Tryz.func108 (fun a r h=>WT a r h)
def Ej:(List Duty)→List V:=oA (fG ah)
def Ek (r:(List Duty)):V×List V:=(.usl 4 (r.map ah),[])
noncomputable def BH :=bi [false] Ej Ek fun x=>BG x
theorem acs {a_1:List Duty}{r}(h:BG a_1=some r):BH.F (Ej a_1)=some (Ek r):=aH (aI (bW ey)) h
noncomputable def SU :=aF Tryz.f57
noncomputable def Lq :=cb [(108,BF)]
def ST (x:(List Duty))(r:(List Duty)):St→Prop:=QF Lq Tryz.f57 [false] (Ej x) (Ek r)
theorem NR (a_1:List Duty):ch Lq 0 (ST a_1) (cL (cL (cR (cL (cR (cR SU)))))) 0 (tC a_1) (fun u=>(sT 23 [(3,.hs 1 0 [] 4 0 (u.map ah).length)] [⟨0,4,u.map ah⟩] 2)) fun x3=>(sT 23 [(0,.isl false (a_1.map ah)),(3,.hs 1 0 [] 4 0 (x3.2.map ah).length),(4,I x3.1)] [⟨0,4,x3.2.map ah⟩] 2):=eg (zm a_1) fun {Q K} hK self ih x3 y h hr hn=>by
 unfold ny at h
 refine cq 5 [8,9] [I x3.1,.isl false (a_1.map ah)] 34 ?_
 refine oq 50 (I (len a_1)) rfl (bu rfl rfl rfl (bG rfl)) ?_
 refine cq 2 [11] [B (decide (x3.1<(len a_1)))] 66 ?_
 refine sq h ?_ ?_<;>intro h
 ·refine aq 1 ?_
  refine cq 7 [14,15,16,17] [.hs 1 0 [] 4 0 (x3.2.map ah).length,I x3.1,.isl false (a_1.map ah),I x3.1] 130 ?_
  obtain⟨e4,he4,h⟩:=bS h
  refine oq 146 (.iptr (ah e4) 0) rfl (ak rfl rfl rfl (ba rfl rfl rfl rfl he4)) ?_
  refine cq 1 [19] [ah e4] 162 ?_
  obtain⟨r5,hr5,h⟩:=bS h
  refine oq 178 (ah r5) rfl (cP (acp hr5)) ?_
  obtain⟨e6,he6,h⟩:=bS h
  refine oq 194 (.hp 1 0 [] 4 (0+Int.toNat x3.1) 0) rfl (ak rfl rfl rfl (dU (f:=ah) (xs:=x3.2) rfl rfl rfl he6)) ?_
  refine o0 210 rfl rfl (fW rfl rfl (fh (path:=[]) (pl:=true) (e':=ah r5) (es2':=(dj x3.2 x3.1 r5).map ah) rfl (dT rfl) rfl rfl rfl aX (dh (f:=ah) (xs:=x3.2) he6) rfl rfl rfl (iH (f:=ah) (xs:=x3.2) (y:=r5)) eG 0 rfl)) ?_
  try rw[←gR (f:=ah) (xs:=x3.2) (i:=x3.1) (z:=r5)]
  refine cq 7 [4] [I (ai (x3.1+1))] 258 ?_
  refine cZ ?_
  exact rf [0,3,4] [1] (ih _ _ h hr hn :)
 ·refine aq 1 ?_
  exact rf [3] [1] (hn _ (aj h) :) (hk:=hK)
theorem WU (a_1:List Duty)(r:(List Duty))(h:BG a_1=some r):br Lq Tryz.f57 [false] 0 (Ej a_1) (Ek r):=by
 show Run _ _ (ST a_1 r) [.code SU] _
 refine rI 23 [(0,.isl false (a_1.map ah))] [] 1 ?_
 unfold BG at h
 refine cq 7 [5] [.isl false (a_1.map ah)] 33 ?_
 refine oq 49 (I (len a_1)) rfl (bu rfl rfl rfl (bG rfl)) ?_
 obtain⟨m2,hm2,h⟩:=bS h
 refine oq 65 (.hs 49 0 [] 4 0 (m2.map ah).length) rfl (kY rfl rfl (Hi (f:=ah) rfl rfl rfl (by decide) hm2 rfl)) ?_
 refine cq 8 [3,4] [.hs 49 0 [] 4 0 (m2.map ah).length,I (0)] 97 ?_
 obtain⟨y7,hy7,hy71,hy72⟩:=bJ h
 refine bN rfl ?_
 refine rf [0,3,4] [49] (NR a_1 rfl (0,m2) _ hy7 (fun r' e st hq=>by rw[hy71 r' e] at hq;exact hq) fun u7 hu=>?_)
 replace h:=hy72 u7 hu
 refine cq 5 [2] [.hs 1 0 [] 4 0 (u7.map ah).length] 34 ?_
 obtain rfl:=sI h
 exact cr rfl ⟨_,fin (vs:=[.hs 1 0 [] 4 0 (u7.map ah).length]) rfl (gC (gk rfl (dZ rfl rfl)) eI) rfl (dw fD),fz⟩
theorem SV {G:bZ}:bV G 57 BH:=gT 1 0 (aO SS bz) cd Tryz.func57 (fun a r h=>WU a r h)
def El:(List Int)→List V:=oA (fG I)
def Em (r:(List Int)):V×List V:=(.usl 1 (r.map I),[])
noncomputable def BK :=bi [false] El Em fun x=>BI x
theorem acu {a_1:List Int}{r}(h:BI a_1=some r):BK.F (El a_1)=some (Em r):=aH (aI (bW bo)) h
noncomputable def SX :=aF Tryz.f58
noncomputable def Lr :=cb []
def SW (x:(List Int))(r:(List Int)):St→Prop:=QF Lr Tryz.f58 [false] (El x) (Em r)
theorem NS (a_1:List Int):ch Lr 0 (SW a_1) (cL (cL (cR (cL (cR (cR SX)))))) 0 (tD a_1) (fun u=>(sT 22 [(3,.hs 1 0 [] 1 0 (u.map I).length)] [⟨0,1,u.map I⟩] 2)) fun x3=>(sT 22 [(0,.isl false (a_1.map I)),(3,.hs 1 0 [] 1 0 (x3.2.map I).length),(4,I x3.1)] [⟨0,1,x3.2.map I⟩] 2):=eg (zn a_1) fun {Q K} hK self ih x3 y h hr hn=>by
 unfold nz at h
 refine cq 5 [8,9] [I x3.1,.isl false (a_1.map I)] 34 ?_
 refine oq 50 (I (len a_1)) rfl (bu rfl rfl rfl (bG rfl)) ?_
 refine cq 2 [11] [B (decide (x3.1<(len a_1)))] 66 ?_
 refine sq h ?_ ?_<;>intro h
 ·refine aq 1 ?_
  refine cq 7 [14,15,16,17] [.hs 1 0 [] 1 0 (x3.2.map I).length,I x3.1,.isl false (a_1.map I),I x3.1] 130 ?_
  obtain⟨e4,he4,h⟩:=bS h
  refine oq 146 (.iptr (I e4) 0) rfl (ak rfl rfl rfl (ba rfl rfl rfl rfl he4)) ?_
  refine cq 1 [19] [I e4] 162 ?_
  obtain⟨e5,he5,h⟩:=bS h
  refine oq 178 (.hp 1 0 [] 1 (0+Int.toNat x3.1) 0) rfl (ak rfl rfl rfl (dU (f:=I) (xs:=x3.2) rfl rfl rfl he5)) ?_
  refine o0 194 rfl rfl (fW rfl rfl (fh (path:=[]) (pl:=true) (e':=I e4) (es2':=(dj x3.2 x3.1 e4).map I) rfl (dT rfl) rfl rfl rfl aX (dh (f:=I) (xs:=x3.2) he5) rfl rfl rfl (iH (f:=I) (xs:=x3.2) (y:=e4)) eG 0 rfl)) ?_
  try rw[←gR (f:=I) (xs:=x3.2) (i:=x3.1) (z:=e4)]
  refine cq 7 [4] [I (ai (x3.1+1))] 242 ?_
  refine cZ ?_
  exact rf [0,3,4] [1] (ih _ _ h hr hn :)
 ·refine aq 1 ?_
  exact rf [3] [1] (hn _ (aj h) :) (hk:=hK)
theorem WV (a_1:List Int)(r:(List Int))(h:BI a_1=some r):br Lr Tryz.f58 [false] 0 (El a_1) (Em r):=by
 show Run _ _ (SW a_1 r) [.code SX] _
 refine rI 22 [(0,.isl false (a_1.map I))] [] 1 ?_
 unfold BI at h
 refine cq 7 [5] [.isl false (a_1.map I)] 33 ?_
 refine oq 49 (I (len a_1)) rfl (bu rfl rfl rfl (bG rfl)) ?_
 obtain⟨m2,hm2,h⟩:=bS h
 refine oq 65 (.hs 49 0 [] 1 0 (m2.map I).length) rfl (kY rfl rfl (Hi (f:=I) rfl rfl rfl (by decide) hm2 rfl)) ?_
 refine cq 8 [3,4] [.hs 49 0 [] 1 0 (m2.map I).length,I (0)] 97 ?_
 obtain⟨y6,hy6,hy61,hy62⟩:=bJ h
 refine bN rfl ?_
 refine rf [0,3,4] [49] (NS a_1 rfl (0,m2) _ hy6 (fun r' e st hq=>by rw[hy61 r' e] at hq;exact hq) fun u6 hu=>?_)
 replace h:=hy62 u6 hu
 refine cq 5 [2] [.hs 1 0 [] 1 0 (u6.map I).length] 34 ?_
 obtain rfl:=sI h
 exact cr rfl ⟨_,fin (vs:=[.hs 1 0 [] 1 0 (u6.map I).length]) rfl (gC (gk rfl (dZ rfl rfl)) eI) rfl (dw fD),fz⟩
theorem SY {G:bZ}:bV G 58 BK:=gT 1 0 bz cd Tryz.func58 (fun a r h=>WV a r h)
def En:State→List V:=oA bH
def Eo (r:State):V×List V:=(.agg [I r.Day,.usl 1 (r.Facts.map str),.usl 4 (r.Duties.map ah),.usl 1 (r.Balances.map I),B r.Over],[])
noncomputable def BL :=bi [false] En Eo fun x=>vb x
theorem wO {a_1:State}{r}(h:vb a_1=some r):BL.F (En a_1)=some (Eo r):=aH (aI bP) h
noncomputable def acw :=aF Tryz.f23
noncomputable def SZ :=cb [(45,vc),(57,BH),(58,BK)]
def acv (x:State)(r:State):St→Prop:=QF SZ Tryz.f23 [false] (En x) (Eo r)
theorem WW (a_1:State)(r:State)(h:vb a_1=some r):br SZ Tryz.f23 [false] 0 (En a_1) (Eo r):=by
 show Run _ _ (acv a_1 r) [.code acw] _
 refine rI 23 [(0,bH a_1)] [] 1 ?_
 unfold vb at h
 refine ck 4 [1,2] [] [1,17] [] [.hp 1 0 [] 5 0 0,.hp 17 0 [] 5 0 0] [some ⟨0,5,[bH a_1]⟩,some ⟨0,5,[.agg [I (0),.isl true [],.isl true [],.isl true [],B false]]⟩] 33 (by kernel_rfl) ?_
 refine fP 17 [.agg [I (0),.usl 1 (([]).map str),.usl 4 (([]).map ah),.usl 1 (([]).map I),B false]] rfl rfl (aP (hY (aP (.refl _) (aP (.nil _) (aP (.nil _) (aP (.nil _) (aP (.refl _) eT)))))) eT) ?_
 refine ck 4 [3] [] [33] [] [.hp 33 0 [] 5 0 0] [some ⟨0,5,[.agg [I (0),.isl true [],.isl true [],.isl true [],B false]]⟩] 49 (by kernel_rfl) ?_
 refine fP 33 [.agg [I (0),.usl 1 (([]).map str),.usl 4 (([]).map ah),.usl 1 (([]).map I),B false]] rfl rfl (aP (hY (aP (.refl _) (aP (.nil _) (aP (.nil _) (aP (.nil _) (aP (.refl _) eT)))))) eT) ?_
 refine ck 12 [8] [] [33] [] [.isl false (a_1.Facts.map str)] [some ⟨1,5,[.agg [I a_1.Day,.usl 1 (([]).map str),.usl 4 (([]).map ah),.usl 1 (([]).map I),B false]]⟩] 145 (by kernel_rfl) ?_
 obtain⟨r2,hr2,h⟩:=bS h
 refine oq 161 (.hs 145 0 [] 1 0 (r2.map str).length) rfl (cP (S1 hr2)) ?_
 refine cq 1 [10] [.hp 33 0 [] 5 0 1] 177 ?_
 refine o0 193 rfl rfl (fW rfl rfl (fh (path:=[]) (pl:=false) (e':=.agg [I a_1.Day,.usl 1 (r2.map str),.usl 4 (([]).map ah),.usl 1 (([]).map I),B false]) (es2':=[.agg [I a_1.Day,.usl 1 (r2.map str),.usl 4 (([]).map ah),.usl 1 (([]).map I),B false]]) rfl (gk rfl (dZ rfl rfl)) rfl rfl rfl aX rfl rfl rfl rfl rfl eG 2 rfl)) ?_
 refine cq 5 [12] [.isl false (a_1.Duties.map ah)] 225 ?_
 obtain⟨r3,hr3,h⟩:=bS h
 refine oq 241 (.hs 225 0 [] 4 0 (r3.map ah).length) rfl (cP (acs hr3)) ?_
 refine cq 1 [14] [.hp 33 0 [] 5 0 2] 257 ?_
 refine o0 273 rfl rfl (fW rfl rfl (fh (path:=[]) (pl:=false) (e':=.agg [I a_1.Day,.usl 1 (r2.map str),.usl 4 (r3.map ah),.usl 1 (([]).map I),B false]) (es2':=[.agg [I a_1.Day,.usl 1 (r2.map str),.usl 4 (r3.map ah),.usl 1 (([]).map I),B false]]) rfl (gk rfl (dZ rfl rfl)) rfl rfl rfl aX rfl rfl rfl rfl rfl eG 3 rfl)) ?_
 refine cq 5 [16] [.isl false (a_1.Balances.map I)] 305 ?_
 obtain⟨r4,hr4,h⟩:=bS h
 refine oq 321 (.hs 305 0 [] 1 0 (r4.map I).length) rfl (cP (acu hr4)) ?_
 refine cq 1 [18] [.hp 33 0 [] 5 0 3] 337 ?_
 refine o0 353 rfl rfl (fW rfl rfl (fh (path:=[]) (pl:=false) (e':=.agg [I a_1.Day,.usl 1 (r2.map str),.usl 4 (r3.map ah),.usl 1 (r4.map I),B false]) (es2':=[.agg [I a_1.Day,.usl 1 (r2.map str),.usl 4 (r3.map ah),.usl 1 (r4.map I),B false]]) rfl (gk rfl (dZ rfl rfl)) rfl rfl rfl aX rfl rfl rfl rfl rfl eG 4 rfl)) ?_
 refine ck 11 [22] [] [33] [] [.agg [I a_1.Day,.hs 33 4 [(0,1)] 1 0 (r2.map str).length,.hs 33 4 [(0,2)] 4 0 (r3.map ah).length,.hs 33 4 [(0,3)] 1 0 (r4.map I).length,B a_1.Over]] [some ⟨4,5,[.agg [I a_1.Day,.usl 1 (r2.map str),.usl 4 (r3.map ah),.usl 1 (r4.map I),B a_1.Over]]⟩] 433 (by kernel_rfl) ?_
 refine o0 449 rfl rfl (fW rfl rfl (fh (path:=[]) (pl:=false) (e':=.agg [I a_1.Day,.usl 1 (r2.map str),.usl 4 (r3.map ah),.usl 1 (r4.map I),B a_1.Over]) (es2':=[.agg [I a_1.Day,.usl 1 (r2.map str),.usl 4 (r3.map ah),.usl 1 (r4.map I),B a_1.Over]]) rfl (po (cH (dm rfl) (cH (iL (path:=[(0,1)]) rfl rfl (gw rfl rfl aX) rfl (oW (path:=[]) (i:=0) (k:=1) (e':=.agg [I a_1.Day,.dead,.usl 4 (r3.map ah),.usl 1 (r4.map I),B a_1.Over]) (es2':=[.agg [I a_1.Day,.dead,.usl 4 (r3.map ah),.usl 1 (r4.map I),B a_1.Over]]) aX rfl rfl rfl eG)) (cH (iL (path:=[(0,2)]) rfl rfl (gw rfl rfl aX) rfl (oW (path:=[]) (i:=0) (k:=2) (e':=.agg [I a_1.Day,.dead,.dead,.usl 1 (r4.map I),B a_1.Over]) (es2':=[.agg [I a_1.Day,.dead,.dead,.usl 1 (r4.map I),B a_1.Over]]) aX rfl rfl rfl eG)) (cH (iL (path:=[(0,3)]) rfl rfl (gw rfl rfl aX) rfl (oW (path:=[]) (i:=0) (k:=3) (e':=.agg [I a_1.Day,.dead,.dead,.dead,B a_1.Over]) (es2':=[.agg [I a_1.Day,.dead,.dead,.dead,B a_1.Over]]) aX rfl rfl rfl eG)) (cH (dm rfl) pq)))))) rfl rfl rfl aX rfl rfl rfl rfl rfl eG 2 rfl)) ?_
 refine aq 1 ?_
 obtain rfl:=sI h
 exact cr rfl ⟨_,fin (vs:=[.agg [I a_1.Day,.hs 17 2 [(0,1)] 1 0 (r2.map str).length,.hs 17 2 [(0,2)] 4 0 (r3.map ah).length,.hs 17 2 [(0,3)] 1 0 (r4.map I).length,B a_1.Over]]) (Nr (uQ rfl rfl rfl) Ns) (gC (po (cH (dm rfl) (cH (iL (path:=[(0,1)]) rfl rfl (gw rfl rfl aX) rfl (oW (path:=[]) (i:=0) (k:=1) (e':=.agg [I a_1.Day,.dead,.usl 4 (r3.map ah),.usl 1 (r4.map I),B a_1.Over]) (es2':=[.agg [I a_1.Day,.dead,.usl 4 (r3.map ah),.usl 1 (r4.map I),B a_1.Over]]) aX rfl rfl rfl eG)) (cH (iL (path:=[(0,2)]) rfl rfl (gw rfl rfl aX) rfl (oW (path:=[]) (i:=0) (k:=2) (e':=.agg [I a_1.Day,.dead,.dead,.usl 1 (r4.map I),B a_1.Over]) (es2':=[.agg [I a_1.Day,.dead,.dead,.usl 1 (r4.map I),B a_1.Over]]) aX rfl rfl rfl eG)) (cH (iL (path:=[(0,3)]) rfl rfl (gw rfl rfl aX) rfl (oW (path:=[]) (i:=0) (k:=3) (e':=.agg [I a_1.Day,.dead,.dead,.dead,B a_1.Over]) (es2':=[.agg [I a_1.Day,.dead,.dead,.dead,B a_1.Over]]) aX rfl rfl rfl eG)) (cH (dm rfl) pq)))))) eI) rfl (dw fD),fz⟩
theorem S0 {G:bZ}:bV G 23 BL:=gT 1 0 (aO I4 (aO SV (aO SY bz))) cd Tryz.func23 (fun a r h=>WW a r h)
def pR:(Int×Int×Int)→List V:=cA I (cA I (oA I))
def pS (r:Bool):V×List V:=(B r,[])
noncomputable def fF :=bi [false,false,false] pR pS fun x=>eq x.1 x.2.1 x.2.2
theorem et {x_1:Int}{a_2:Int}{b_3:Int}{r}(h:eq x_1 a_2 b_3=some r):fF.F (pR (x_1,a_2,b_3))=some (pS r):=aH (aJ bo (aJ bo (aI bo))) h
noncomputable def AG :=aF Tryz.f89
noncomputable def tk :=cb []
def AF (x:Int×Int×Int)(r:Bool):St→Prop:=QF tk Tryz.f89 [false,false,false] (pR x) (pS r)
theorem JZ (x_1:Int)(a_2:Int)(b_3:Int)(r:Bool)(h:eq x_1 a_2 b_3=some r):br tk Tryz.f89 [false,false,false] 0 (pR (x_1,a_2,b_3)) (pS r):=by
 show Run _ _ (AF (x_1,a_2,b_3) r) [.code AG] _
 refine rI 15 [(0,I x_1),(1,I a_2),(2,I b_3)] [] 1 ?_
 unfold eq at h
 refine cq 10 [10] [B (decide (x_1≥a_2))] 81 ?_
 obtain⟨u4,hu4,h⟩:=lJ h
 have j4:Run tk 0 (AF (x_1,a_2,b_3) r) (.code (cR (cR AG))::[]) (sT 15 [(6,B u4)] [] 1):=by
  obtain rfl:=sI h
  exact rP [B u4]
 replace h:=hu4
 clear hu4
 refine sp 10 h rfl ?_ ?_<;>intro h
 ·refine cq 6 [6] [B (decide (x_1≤b_3))] 161 ?_
  subst h
  exact rf [6] [] (j4 :)
 ·refine cq 6 [6] [B false] 161 ?_
  subst h
  exact rf [6] [] (j4 :)
theorem f9 {G:bZ}:bV G 89 fF:=gT 3 0 bz cd Tryz.func89 (fun a r h=>JZ a.1 a.2.1 a.2.2 r h)
def FT:Int→List V:=oA (V.int .u8)
def FU (r:Bool):V×List V:=(B r,[])
noncomputable def Cu :=bi [false] FT FU fun x=>xl x
theorem adc {b_1:Int}{r}(h:xl b_1=some r):Cu.F (FT b_1)=some (FU r):=aH (aI (ND (k:=.u8))) h
noncomputable def xn :=aF Tryz.f128
noncomputable def ua :=cb []
def xm (x:Int)(r:Bool):St→Prop:=QF ua Tryz.f128 [false] (FT x) (FU r)
theorem XE (b_1:Int)(r:Bool)(h:xl b_1=some r):br ua Tryz.f128 [false] 0 (FT b_1) (FU r):=by
 show Run _ _ (xm b_1 r) [.code xn] _
 refine rI 17 [(0,.int .u8 b_1)] [] 1 ?_
 unfold xl at h
 refine cq 9 [5] [B (decide (b_1≥97))] 65 ?_
 obtain⟨u2,hu2,h⟩:=lJ h
 have j2:Run ua 0 (xm b_1 r) (.code (cR (cR xn))::[]) (sT 17 [(2,B u2)] [] 1):=by
  obtain rfl:=sI h
  exact rP [B u2]
 replace h:=hu2
 clear hu2
 refine sp 5 h rfl ?_ ?_<;>intro h
 ·refine cq 4 [9] [B (decide (b_1≤122))] 129 ?_
  obtain⟨u3,hu3,h⟩:=lJ h
  have j3:Run ua 0 (xm b_1 r) (.code (cR (cR xn))::[]) (sT 17 [(2,B u3)] [] 1):=by
   subst h
   exact rf [2] [] (j2 :)
  replace h:=hu3
  clear hu3
  refine sp 9 h rfl ?_ ?_<;>intro h
  ·refine cq 9 [2] [B true] 257 ?_
   subst h
   exact rf [2] [] (j3 :)
  ·refine cq 3 [12] [B (decide (b_1≥48))] 177 ?_
   obtain⟨u4,hu4,h⟩:=lJ h
   have j4:Run ua 0 (xm b_1 r) (.code (cR (cR xn))::[]) (sT 17 [(2,B u4)] [] 1):=by
    subst h
    exact rf [2] [] (j3 :)
   replace h:=hu4
   clear hu4
   refine sp 12 h rfl ?_ ?_<;>intro h
   ·refine cq 6 [2] [B (decide (b_1≤57))] 257 ?_
    subst h
    exact rf [2] [] (j4 :)
   ·refine cq 6 [2] [B false] 257 ?_
    subst h
    exact rf [2] [] (j4 :)
 ·refine cq 7 [9,12] [B false,B (decide (b_1≥48))] 177 ?_
  obtain⟨u5,hu5,h⟩:=lJ h
  have j5:Run ua 0 (xm b_1 r) (.code (cR (cR xn))::[]) (sT 17 [(2,B u5)] [] 1):=by
   subst h
   exact rf [2] [] (j2 :)
  replace h:=hu5
  clear hu5
  refine sp 12 h rfl ?_ ?_<;>intro h
  ·refine cq 6 [2] [B (decide (b_1≤57))] 257 ?_
   subst h
   exact rf [2] [] (j5 :)
  ·refine cq 6 [2] [B false] 257 ?_
   subst h
   exact rf [2] [] (j5 :)
theorem Uq {G:bZ}:bV G 128 Cu:=gT 1 0 bz cd Tryz.func128 (fun a r h=>XE a r h)
def FN:ac→List V:=oA str
def FO (r:Bool):V×List V:=(B r,[])
noncomputable def pi :=bi [false] FN FO fun x=>ro x
theorem rp {s_1:ac}{r}(h:ro s_1=some r):pi.F (FN s_1)=some (FO r):=aH (aI bT) h
noncomputable def pX :=aF Tryz.f80
noncomputable abbrev nK :=cR (cR (cR (cR pX)))
noncomputable abbrev nL :=cR (cL (cR (cL (cR (cR (cR pX))))))
noncomputable def jN :=cb [(89,fF),(128,Cu)]
def iu (x:ac)(r:Bool):St→Prop:=QF jN Tryz.f80 [false] (FN x) (FO r)
theorem Oo (s_1:ac):ch jN 0 (iu s_1) (cL (cL (cR (cL (cR (cR pX)))))) 0 (tW s_1) (fun u=>(sT 40 [(0,str s_1)] [] 1)) fun x4=>(sT 40 [(0,str s_1),(3,I x4)] [] 1):=eg (zT s_1) fun {Q K} hK self ih x4 y h hr hn=>by
 unfold nM at h
 refine cq 8 [21] [B (decide (x4<(len s_1)))] 65 ?_
 refine sq h ?_ ?_<;>intro h
 ·refine aq 1 ?_
  refine cq 6 [24,25] [str s_1,I x4] 97 ?_
  obtain⟨c5,hc5,h⟩:=bS h
  refine oq 113 (.int .u8 (c5.toNat:Int)) rfl (nY rfl rfl (sw rfl rfl hc5)) ?_
  obtain⟨r6,hr6,h⟩:=bS h
  refine oq 129 (B r6) rfl (cP (adc hr6)) ?_
  refine cq 2 [28] [B (!r6)] 145 ?_
  refine sq h ?_ ?_<;>intro h
  ·refine cq 4 [2] [B false] 161 ?_
   exact cr rfl (hr _ (aj h) _ (qp [B false]))
  ·refine aq 1 ?_
   refine cq 6 [3] [I (ai (x4+1))] 193 ?_
   refine cZ ?_
   exact rf [0,3] [] (ih _ _ h hr hn :)
 ·refine aq 1 ?_
  exact rf [0] [] (hn _ (aj h) :) (hk:=hK)
theorem XA (s_1:ac)(r:Bool)(h:ro s_1=some r):br jN Tryz.f80 [false] 0 (FN s_1) (FO r):=by
 show Run _ _ (iu s_1 r) [.code pX] _
 refine rI 40 [(0,str s_1)] [] 1 ?_
 unfold ro at h
 refine cq 9 [5] [I (len s_1)] 49 ?_
 obtain⟨r2,hr2,h⟩:=bS h
 refine oq 65 (B r2) rfl (cP (et hr2)) ?_
 refine cq 2 [8] [B (!r2)] 97 ?_
 obtain⟨y3,hy3,hy31,hy32⟩:=bJ h
 have j3:∀u3,y3=.inr u3→Run jN 0 (iu s_1 r) (.code (cR (cL (cR pX)))::.code (cR (cR pX))::[]) (sT 40 [(0,str s_1),(17,B u3)] [] 1):=by
  intro u3 hu
  replace h:=hy32 u3 hu
  refine sq h ?_ ?_<;>intro h
  ·refine cq 4 [2] [B false] 17 ?_
   obtain rfl:=sI h
   exact rP [B false]
  ·refine aq 1 ?_
   refine cq 6 [3] [I (0)] 17 ?_
   obtain⟨y7,hy7,hy71,hy72⟩:=bJ h
   refine bN rfl ?_
   refine rf [0,3] [] (Oo s_1 rfl 0 _ hy7 (fun r' e st hq=>by rw[hy71 r' e] at hq;exact hq) fun u7 hu=>?_)
   replace h:=hy72 u7 hu
   refine cq 12 [29,30] [str s_1,B (s_1==([116,114,117,101]:ac))] 49 ?_
   obtain⟨u8,hu8,h⟩:=lJ h
   have j8:Run jN 0 (iu s_1 r) (.code nL::.blk 2::.code nK::[]) (sT 40 [(30,B u8)] [] 1):=by
    refine sq h ?_ ?_<;>intro h
    ·refine cq 4 [2] [B false] 17 ?_
     obtain rfl:=sI h
     exact rP [B false]
    ·refine aq 1 ?_
     refine cq 5 [2] [B true] 17 ?_
     obtain rfl:=sI h
     exact rP [B true]
   replace h:=hu8
   clear hu8
   refine sJ h rfl rfl ?_ ?_<;>intro h
   ·refine aq 1 ?_
    subst h
    exact rf [30] [] (j8 :)
   ·refine cq 5 [30] [B (s_1==([102,114,111,109]:ac))] 81 ?_
    obtain⟨u9,hu9,h⟩:=lJ h
    have j9:Run jN 0 (iu s_1 r) (.code nL::.blk 2::.code nK::[]) (sT 40 [(30,B u9)] [] 1):=by
     subst h
     exact rf [30] [] (j8 :)
    replace h:=hu9
    clear hu9
    refine sJ h rfl rfl ?_ ?_<;>intro h
    ·refine aq 1 ?_
     subst h
     exact rf [30] [] (j9 :)
    ·refine cq 5 [30] [B (s_1==([110,111,116]:ac))] 113 ?_
     obtain⟨u10,hu10,h⟩:=lJ h
     have j10:Run jN 0 (iu s_1 r) (.code nL::.blk 2::.code nK::[]) (sT 40 [(30,B u10)] [] 1):=by
      subst h
      exact rf [30] [] (j9 :)
     replace h:=hu10
     clear hu10
     refine sJ h rfl rfl ?_ ?_<;>intro h
     ·refine aq 1 ?_
      subst h
      exact rf [30] [] (j10 :)
     ·refine cq 5 [30] [B (s_1==([97,110,100]:ac))] 145 ?_
      obtain⟨u11,hu11,h⟩:=lJ h
      have j11:Run jN 0 (iu s_1 r) (.code nL::.blk 2::.code nK::[]) (sT 40 [(30,B u11)] [] 1):=by
       subst h
       exact rf [30] [] (j10 :)
      replace h:=hu11
      clear hu11
      refine sJ h rfl rfl ?_ ?_<;>intro h
      ·refine aq 1 ?_
       subst h
       exact rf [30] [] (j11 :)
      ·refine cq 5 [30] [B (s_1==([111,114]:ac))] 177 ?_
       obtain⟨u12,hu12,h⟩:=lJ h
       have j12:Run jN 0 (iu s_1 r) (.code nL::.blk 2::.code nK::[]) (sT 40 [(30,B u12)] [] 1):=by
        subst h
        exact rf [30] [] (j11 :)
       replace h:=hu12
       clear hu12
       refine sJ h rfl rfl ?_ ?_<;>intro h
       ·refine aq 1 ?_
        subst h
        exact rf [30] [] (j12 :)
       ·refine cq 5 [30] [B (s_1==([98,111,116,104]:ac))] 209 ?_
        obtain⟨u13,hu13,h⟩:=lJ h
        have j13:Run jN 0 (iu s_1 r) (.code nL::.blk 2::.code nK::[]) (sT 40 [(30,B u13)] [] 1):=by
         subst h
         exact rf [30] [] (j12 :)
        replace h:=hu13
        clear hu13
        refine sJ h rfl rfl ?_ ?_<;>intro h
        ·refine aq 1 ?_
         subst h
         exact rf [30] [] (j13 :)
        ·refine cq 5 [30] [B (s_1==([101,105,116,104,101,114]:ac))] 241 ?_
         obtain⟨u14,hu14,h⟩:=lJ h
         have j14:Run jN 0 (iu s_1 r) (.code nL::.blk 2::.code nK::[]) (sT 40 [(30,B u14)] [] 1):=by
          subst h
          exact rf [30] [] (j13 :)
         replace h:=hu14
         clear hu14
         refine sJ h rfl rfl ?_ ?_<;>intro h
         ·refine aq 1 ?_
          subst h
          exact rf [30] [] (j14 :)
         ·refine cq 5 [30] [B (s_1==([105,116]:ac))] 273 ?_
          obtain⟨u15,hu15,h⟩:=lJ h
          have j15:Run jN 0 (iu s_1 r) (.code nL::.blk 2::.code nK::[]) (sT 40 [(30,B u15)] [] 1):=by
           subst h
           exact rf [30] [] (j14 :)
          replace h:=hu15
          clear hu15
          refine sJ h rfl rfl ?_ ?_<;>intro h
          ·refine aq 1 ?_
           subst h
           exact rf [30] [] (j15 :)
          ·refine cq 4 [30] [B (s_1==([105,110]:ac))] 305 ?_
           subst h
           exact rf [30] [] (j15 :)
 have r3:∀r',y3=.inl r'→∀st,iu s_1 r' st→(iu s_1 r) st:=fun r' e st hq=>by rw[hy31 r' e] at hq;exact hq
 replace h:=hy3
 refine sp 8 h rfl ?_ ?_<;>intro h
 ·refine cq 10 [17] [B true] 241 ?_
  exact rf [0,17] [] (j3 _ (aj h) :)
 ·refine cq 1 [9] [str s_1] 113 ?_
  obtain⟨c16,hc16,h⟩:=bS h
  refine oy 129 (.int .u8 (c16.toNat:Int)) rfl (nY rfl rfl (sw rfl rfl hc16)) ?_
  refine cq 3 [13] [B (decide ((c16.toNat:Int)<97))] 177 ?_
  obtain⟨y17,hy17,hy171,hy172⟩:=bL h
  have j17:∀u17,y17=.inr u17→Run jN 0 (iu s_1 r) (.code (cR (cL (cR pX)))::.code (cR (cR pX))::[]) (sT 40 [(0,str s_1),(17,B u17)] [] 1):=by
   intro u17 hu
   replace h:=hy172 u17 hu
   exact rf [0,17] [] (j3 _ (aj h) :)
  have r17:∀r',y17=.inl r'→∀st,iu s_1 r' st→(iu s_1 r) st:=fun r' e st hq=>r3 r' (hy171 r' e) st hq
  replace h:=hy17
  refine sp 13 h rfl ?_ ?_<;>intro h
  ·refine cq 5 [17] [B true] 241 ?_
   exact rf [0,17] [] (j17 _ (aj h) :)
  ·refine cq 1 [14] [str s_1] 193 ?_
   obtain⟨c18,hc18,h⟩:=bS h
   refine oy 209 (.int .u8 (c18.toNat:Int)) rfl (nY rfl rfl (sw rfl rfl hc18)) ?_
   refine cq 3 [17] [B (decide ((c18.toNat:Int)>122))] 241 ?_
   exact rf [0,17] [] (j17 _ (aj h) :)
theorem se {G:bZ}:bV G 80 pi:=gT 1 0 (aO f9 (aO Uq bz)) cd Tryz.func80 (fun a r h=>XA a r h)
def FL:((List ac)×ac)→List V:=cA (fG str) (oA str)
def FM (r:Bool):V×List V:=(B r,[])
noncomputable def vm :=bi [false,false] FL FM fun x=>vl x.1 x.2
theorem LW {ay:List ac}{eZ:ac}{r}(h:vl ay eZ=some r):vm.F (FL (ay,eZ))=some (FM r):=aH (aJ (bW bT) (aI bT)) h
noncomputable def Uj :=aF Tryz.f123
noncomputable def LV :=cb []
def Ui (x:(List ac)×ac)(r:Bool):St→Prop:=QF LV Tryz.f123 [false,false] (FL x) (FM r)
theorem Om (ay:List ac)(eZ:ac):ch LV 0 (Ui (ay,eZ)) (cL (cL (cR (cL (cR Uj))))) 0 (tV ay eZ) (fun u=>(sT 18 [] [] 1)) fun x3=>(sT 18 [(0,.isl false (ay.map str)),(1,str eZ),(5,I x3)] [] 1):=eg (zS ay eZ) fun {Q K} hK self ih x3 y h hr hn=>by
 unfold nJ at h
 refine cq 5 [6,7] [I x3,.isl false (ay.map str)] 33 ?_
 refine oq 49 (I (len ay)) rfl (bu rfl rfl rfl (bG rfl)) ?_
 refine cq 2 [9] [B (decide (x3<(len ay)))] 65 ?_
 refine sq h ?_ ?_<;>intro h
 ·refine aq 1 ?_
  refine cq 6 [12,13] [.isl false (ay.map str),I x3] 97 ?_
  obtain⟨e4,he4,h⟩:=bS h
  refine oq 113 (.iptr (str e4) 0) rfl (ak rfl rfl rfl (ba rfl rfl rfl rfl he4)) ?_
  refine cq 4 [17] [B (e4==eZ)] 161 ?_
  refine sq h ?_ ?_<;>intro h
  ·refine cq 4 [4] [B true] 177 ?_
   exact cr rfl (hr _ (aj h) _ (qp [B true]))
  ·refine aq 1 ?_
   refine cq 6 [5] [I (ai (x3+1))] 209 ?_
   refine cZ ?_
   exact rf [0,1,5] [] (ih _ _ h hr hn :)
 ·refine aq 1 ?_
  exact rf [] [] (hn _ (aj h) :) (hk:=hK)
theorem Xz (ay:List ac)(eZ:ac)(r:Bool)(h:vl ay eZ=some r):br LV Tryz.f123 [false,false] 0 (FL (ay,eZ)) (FM r):=by
 show Run _ _ (Ui (ay,eZ) r) [.code Uj] _
 refine rI 18 [(0,.isl false (ay.map str)),(1,str eZ)] [] 1 ?_
 unfold vl at h
 refine cq 10 [5] [I (0)] 33 ?_
 obtain⟨y5,hy5,hy51,hy52⟩:=bJ h
 refine bN rfl ?_
 refine rf [0,1,5] [] (Om ay eZ rfl 0 _ hy5 (fun r' e st hq=>by rw[hy51 r' e] at hq;exact hq) fun u5 hu=>?_)
 replace h:=hy52 u5 hu
 refine cq 4 [4] [B false] 17 ?_
 obtain rfl:=sI h
 exact rP [B false]
theorem I5 {G:bZ}:bV G 123 vm:=gT 2 0 bz cd Tryz.func123 (fun a r h=>Xz a.1 a.2 r h)
def F9:Contract→List V:=oA aM
def Gb (r:Bool):V×List V:=(B r,[])
noncomputable def CD :=bi [false] F9 Gb fun x=>xt x
theorem adh {c_1:Contract}{r}(h:xt c_1=some r):CD.F (F9 c_1)=some (Gb r):=aH (aI aU) h
noncomputable def xu :=aF Tryz.f90
noncomputable def Ga :=cb [(80,pi),(123,vm),(89,fF)]
def L9 (x:Contract)(r:Bool):St→Prop:=QF Ga Tryz.f90 [false] (F9 x) (Gb r)
theorem Oz (c_1:Contract):ch Ga 0 (L9 c_1) (cL (cL (cR (cL (cR xu))))) 0 (ui c_1) (fun u=>(sT 34 [(1,.hp 1 0 [] 2 0 0)] [⟨0,2,[aa c_1]⟩] 2)) fun x2=>(sT 34 [(1,.hp 1 0 [] 2 0 0),(3,I x2)] [⟨0,2,[aa c_1]⟩] 2):=eg (Ab c_1) fun {Q K} hK self ih x2 y h hr hn=>by
 unfold lL at h
 refine cq 6 [4,6] [I x2,.isl false (c_1.Parties.map str)] 50 ?_
 refine oq 66 (I (len c_1.Parties)) rfl (bu rfl rfl rfl (bG rfl)) ?_
 refine cq 2 [8] [B (decide (x2<(len c_1.Parties)))] 82 ?_
 refine sq h ?_ ?_<;>intro h
 ·refine aq 1 ?_
  refine aq 3 ?_
  refine dK [0,1,0,7,15,31,63,127,255,511,255,2047,255,4351,255,28927,61695,131071,262143] rfl (by decide +kernel) ?_
  refine dq [1] [] (.hp 1 0 [] 2 0 0) rfl (al rfl rfl rfl) ?_
  refine dq [1] [] (.isl false (c_1.Parties.map str)) rfl (aN rfl rfl) ?_
  refine dk 1 [13] [I x2] ?_
  obtain⟨e3,he3,h⟩:=bS h
  refine dq [] [] (.iptr (str e3) 0) rfl (ak rfl rfl rfl (ba rfl rfl rfl rfl he3)) ?_
  refine dq [] [] (str e3) rfl (aN rfl rfl) ?_
  obtain⟨r4,hr4,h⟩:=bS h
  refine dq [] [] (B r4) rfl (cP (rp hr4)) ?_ (dF rfl rfl rfl rfl (bd (bM rfl) dx) (rp hr4) (.inr rfl) rfl)
  refine dk 2 [18,17] [B (!r4),B (!r4)] ?_
  obtain⟨y5,hy5,hy51,hy52⟩:=bL h
  have j5:∀u5,y5=.inr u5→Run Ga 0 Q (.code (cR (cL (cL (cR (cL (cL (cR (cL (cR xu)))))))))::.blk 1::.code (cR (cR (cL (cL (cR (cL (cR xu)))))))::.lp (cL (cL (cR (cL (cR xu)))))::.blk 0::K) (sT 34 [(1,.hp 1 0 [] 2 0 0),(3,I x2),(29,B u5)] [⟨0,2,[aa c_1]⟩] 2):=by
   intro u5 hu
   replace h:=hy52 u5 hu
   refine sq h ?_ ?_<;>intro h
   ·refine cq 4 [2] [B false] 18 ?_
    exact cr rfl (hr _ (aj h) _ (qp [B false]))
   ·refine aq 1 ?_
    refine cq 6 [3] [I (ai (x2+1))] 50 ?_
    refine cZ ?_
    exact rf [1,3] [1] (ih _ _ h hr hn :)
  have r5:∀r',y5=.inl r'→∀st,L9 c_1 r' st→Q st:=fun r' e st hq=>hr r' (hy51 r' e) st hq
  replace h:=hy5
  refine sp 18 h rfl ?_ ?_<;>intro h
  ·refine dk 11 [29,28,27,26,25,24,23,22,21,20,19] [B true,.und,.und,.und,.und,.und,.und,.und,.und,.und,.und] ?_
   refine de 386 rfl rfl ?_
   exact rf [1,3,29] [1] (j5 _ (aj h) :)
  ·refine dy [1] [] (.hp 1 0 [] 2 0 0) rfl (al rfl rfl rfl) ?_
   refine dy [1] [] (.isl false (c_1.Parties.map str)) rfl (aN rfl rfl) ?_
   refine dk 1 [21] [I x2] ?_
   obtain⟨s6,hs6,h⟩:=bS h
   refine dy [] [] (.isl false (s6.map str)) rfl (il rfl rfl rfl rfl (yo rfl rfl (fun y=>(l9 y).1) rfl rfl hs6)) ?_
   refine dy [1] [] (.hp 1 0 [] 2 0 0) rfl (al rfl rfl rfl) ?_
   refine dy [1] [] (.isl false (c_1.Parties.map str)) rfl (aN rfl rfl) ?_
   refine dk 1 [25] [I x2] ?_
   obtain⟨e7,he7,h⟩:=bS h
   refine dy [] [] (.iptr (str e7) 0) rfl (ak rfl rfl rfl (ba rfl rfl rfl rfl he7)) ?_
   refine dy [] [] (str e7) rfl (aN rfl rfl) ?_
   obtain⟨r8,hr8,h⟩:=bS h
   refine dy [] [] (B r8) rfl (cP (LW hr8)) ?_ (dF rfl rfl rfl rfl (bd (bM rfl) (bd (bM rfl) dx)) (LW hr8) (.inr rfl) rfl)
   refine dk 1 [29] [B r8] ?_
   refine de 386 rfl rfl ?_
   exact rf [1,3,29] [1] (j5 _ (aj h) :)
 ·refine aq 1 ?_
  exact rf [1] [1] (hn _ (aj h) :) (hk:=hK)
theorem XN (c_1:Contract)(r:Bool)(h:xt c_1=some r):br Ga Tryz.f90 [false] 0 (F9 c_1) (Gb r):=by
 show Run _ _ (L9 c_1 r) [.code xu] _
 refine rI 34 [(0,aa c_1)] [] 1 ?_
 unfold xt at h
 refine ck 11 [1,3] [] [1] [] [.hp 1 0 [] 2 0 0,I (0)] [some ⟨0,2,[aa c_1]⟩] 49 (by kernel_rfl) ?_
 obtain⟨y9,hy9,hy91,hy92⟩:=bJ h
 refine bN rfl ?_
 refine rf [1,3] [1] (Oz c_1 rfl 0 _ hy9 (fun r' e st hq=>by rw[hy91 r' e] at hq;exact hq) fun u9 hu=>?_)
 replace h:=hy92 u9 hu
 refine cq 4 [31] [.isl false (c_1.Parties.map str)] 34 ?_
 refine oq 50 (I (len c_1.Parties)) rfl (bu rfl rfl rfl (bG rfl)) ?_
 obtain⟨r10,hr10,h⟩:=bS h
 refine oq 66 (B r10) rfl (cP (et hr10)) ?_
 refine cq 2 [2] [B r10] 82 ?_
 obtain rfl:=sI h
 exact rP [B r10]
theorem UF {G:bZ}:bV G 90 CD:=gT 1 0 (aO se (aO I5 (aO f9 bz))) cd Tryz.func90 (fun a r h=>XN a r h)
def F0:(Contract×ac)→List V:=cA aM (oA str)
def F1 (r:Int):V×List V:=(I r,[])
noncomputable def vp :=bi [false,false] F0 F1 fun x=>vo x.1 x.2
theorem L7 {c_1:Contract}{fj:ac}{r}(h:vo c_1 fj=some r):vp.F (F0 (c_1,fj))=some (F1 r):=aH (aJ aU (aI bT)) h
noncomputable def UA :=aF Tryz.f91
noncomputable def L6 :=cb []
def Uz (x:Contract×ac)(r:Int):St→Prop:=QF L6 Tryz.f91 [false,false] (F0 x) (F1 r)
theorem Ow (c_1:Contract)(fj:ac):ch L6 0 (Uz (c_1,fj)) (cL (cL (cR (cL (cR UA))))) 0 (ug c_1 fj) (fun u=>(sT 22 [] [] 1)) fun x3=>(sT 22 [(1,str fj),(2,.hp 1 0 [] 2 0 0),(5,I x3)] [⟨0,2,[aa c_1]⟩] 2):=eg (zY c_1 fj) fun {Q K} hK self ih x3 y h hr hn=>by
 unfold nP at h
 refine cq 6 [6,8] [I x3,.isl false (c_1.Clauses.map ap)] 50 ?_
 refine oq 66 (I (len c_1.Clauses)) rfl (bu rfl rfl rfl (bG rfl)) ?_
 refine cq 2 [10] [B (decide (x3<(len c_1.Clauses)))] 82 ?_
 refine sq h ?_ ?_<;>intro h
 ·refine aq 1 ?_
  refine cq 7 [14,15] [.isl false (c_1.Clauses.map ap),I x3] 130 ?_
  obtain⟨e4,he4,h⟩:=bS h
  refine oq 146 (.iptr (au e4) 0) rfl (ak rfl rfl rfl (ba rfl rfl rfl rfl he4)) ?_
  refine cq 5 [20] [B (e4.Id==fj)] 210 ?_
  refine sq h ?_ ?_<;>intro h
  ·refine cq 5 [4] [I x3] 242 ?_
   exact cr rfl (hr _ (aj h) _ (qp [I x3]))
  ·refine aq 1 ?_
   refine cq 6 [5] [I (ai (x3+1))] 258 ?_
   refine cZ ?_
   exact rf [1,2,5] [1] (ih _ _ h hr hn :)
 ·refine aq 1 ?_
  exact rf [] [] (hn _ (aj h) :) (hk:=hK)
theorem XK (c_1:Contract)(fj:ac)(r:Int)(h:vo c_1 fj=some r):br L6 Tryz.f91 [false,false] 0 (F0 (c_1,fj)) (F1 r):=by
 show Run _ _ (Uz (c_1,fj) r) [.code UA] _
 refine rI 22 [(0,aa c_1),(1,str fj)] [] 1 ?_
 unfold vo at h
 refine ck 11 [2,5] [] [1] [] [.hp 1 0 [] 2 0 0,I (0)] [some ⟨0,2,[aa c_1]⟩] 49 (by kernel_rfl) ?_
 obtain⟨y5,hy5,hy51,hy52⟩:=bJ h
 refine bN rfl ?_
 refine rf [1,2,5] [1] (Ow c_1 fj rfl 0 _ hy5 (fun r' e st hq=>by rw[hy51 r' e] at hq;exact hq) fun u5 hu=>?_)
 replace h:=hy52 u5 hu
 refine cq 4 [4] [I (-1)] 17 ?_
 obtain rfl:=sI h
 exact rP [I (-1)]
theorem I7 {G:bZ}:bV G 91 vp:=gT 2 0 bz cd Tryz.func91 (fun a r h=>XK a.1 a.2 r h)
def FA:Int→List V:=oA I
def FC (r:Bool):V×List V:=(B r,[])
noncomputable def rm :=bi [false] FA FC fun x=>rl x
theorem FB {gZ:Int}{r}(h:rl gZ=some r):rm.F (FA gZ)=some (FC r):=aH (aI bo) h
noncomputable def ac7 :=aF Tryz.f76
noncomputable def T9 :=cb [(89,fF)]
def ac6 (x:Int)(r:Bool):St→Prop:=QF T9 Tryz.f76 [false] (FA x) (FC r)
theorem Xt (gZ:Int)(r:Bool)(h:rl gZ=some r):br T9 Tryz.f76 [false] 0 (FA gZ) (FC r):=by
 show Run _ _ (ac6 gZ r) [.code ac7] _
 refine rI 5 [(0,I gZ)] [] 1 ?_
 unfold rl at h
 refine cq 7 [3] [I gZ] 33 ?_
 obtain⟨r2,hr2,h⟩:=bS h
 refine oq 49 (B r2) rfl (cP (et hr2)) ?_
 refine cq 2 [2] [B r2] 65 ?_
 obtain rfl:=sI h
 exact rP [B r2]
theorem xc {G:bZ}:bV G 76 rm:=gT 1 0 (aO f9 bz) cd Tryz.func76 (fun a r h=>Xt a r h)
def FG:Condition→List V:=oA bF
def FH (r:Bool):V×List V:=(B r,[])
noncomputable def Co :=bi [false] FG FH fun x=>Cn x
theorem ac9 {c_1:Condition}{r}(h:Cn c_1=some r):Co.F (FG c_1)=some (FH r):=aH (aI dC) h
noncomputable def oo :=aF Tryz.f190
noncomputable abbrev jM :=cR (cR (cR oo))
noncomputable abbrev O7 :=cR (cL (cR (cR (cR (cL (cR (cL (cR (cR oo)))))))))
noncomputable abbrev O8 :=cR (cL (cR (cR (cR (cR (cR (cL (cR (cL (cR (cR oo)))))))))))
noncomputable abbrev O9 :=cR (cL (cR (cR (cR (cR (cR (cR (cR (cL (cR (cL (cR (cR oo)))))))))))))
noncomputable abbrev Pa :=cR (cL (cR (cR (cR (cR (cR (cR (cR (cR (cR (cL (cR (cL (cR (cR oo)))))))))))))))
noncomputable def jL :=cb [(80,pi),(76,rm)]
def gJ (x:Condition)(r:Bool):St→Prop:=QF jL Tryz.f190 [false] (FG x) (FH r)
theorem Xv (c_1:Condition)(r:Bool)(h:Cn c_1=some r):br jL Tryz.f190 [false] 0 (FG c_1) (FH r):=by
 show Run _ _ (gJ c_1 r) [.code oo] _
 refine rI 80 [(0,ao c_1)] [] 1 ?_
 unfold Cn at h
 refine ck 9 [1,5] [] [1] [] [.hp 1 0 [] 4 0 0,.isl false (c_1.Parts.map aE)] [some ⟨0,4,[ao c_1]⟩] 65 (by kernel_rfl) ?_
 refine oq 81 (I (len c_1.Parts)) rfl (bu rfl rfl rfl (bG rfl)) ?_
 refine cq 14 [3,8,9] [I (len c_1.Parts),I c_1.Op,B (c_1.Op==1)] 161 ?_
 refine sq h ?_ ?_<;>intro h
 ·refine cq 5 [13] [B ((len c_1.Parts)==0)] 209 ?_
  obtain⟨u2,hu2,h⟩:=lJ h
  have j2:Run jL 0 (gJ c_1 r) (.code (cR (cL (cR (cL (cR (cL (cR (cR oo))))))))::.blk 0::.code jM::[]) (sT 80 [(2,B u2)] [] 1):=by
   obtain rfl:=sI h
   exact rP [B u2]
  replace h:=hu2
  clear hu2
  refine sp 13 h rfl ?_ ?_<;>intro h
  ·refine cq 5 [18] [B (c_1.Name==([]:ac))] 289 ?_
   obtain⟨u3,hu3,h⟩:=lJ h
   have j3:Run jL 0 (gJ c_1 r) (.code (cR (cL (cR (cL (cR (cL (cR (cR oo))))))))::.blk 0::.code jM::[]) (sT 80 [(2,B u3)] [] 1):=by
    subst h
    exact rf [2] [] (j2 :)
   replace h:=hu3
   clear hu3
   refine sp 18 h rfl ?_ ?_<;>intro h
   ·refine cq 6 [2] [B (c_1.Day==0)] 369 ?_
    subst h
    exact rf [2] [] (j3 :)
   ·refine cq 6 [2] [B false] 369 ?_
    subst h
    exact rf [2] [] (j3 :)
  ·refine cq 11 [2] [B false] 369 ?_
   subst h
   exact rf [2] [] (j2 :)
 ·refine cq 5 [23] [B (c_1.Op==2)] 193 ?_
  refine sq h ?_ ?_<;>intro h
  ·refine cq 5 [27] [B ((len c_1.Parts)==0)] 241 ?_
   obtain⟨y4,hy4,hy41,hy42⟩:=bJ h
   have j4:∀u4,y4=.inr u4→Run jL 0 (gJ c_1 r) (.code O7::.blk 0::.code jM::[]) (sT 80 [(2,B u4)] [] 1):=by
    intro u4 hu
    replace h:=hy42 u4 hu
    obtain rfl:=sI h
    exact rP [B u4]
   have r4:∀r',y4=.inl r'→∀st,gJ c_1 r' st→(gJ c_1 r) st:=fun r' e st hq=>by rw[hy41 r' e] at hq;exact hq
   replace h:=hy4
   refine sp 27 h rfl ?_ ?_<;>intro h
   ·refine cq 2 [29] [str c_1.Name] 273 ?_
    obtain⟨r5,hr5,h⟩:=bS h
    refine oy 289 (B r5) rfl (cP (rp hr5)) ?_
    refine cq 2 [32] [B r5] 321 ?_
    obtain⟨u6,hu6,h⟩:=lJ h
    have j6:Run jL 0 (gJ c_1 r) (.code O7::.blk 0::.code jM::[]) (sT 80 [(2,B u6)] [] 1):=by
     exact rf [2] [] (j4 _ (aj h) :)
    replace h:=hu6
    clear hu6
    refine sp 32 h rfl ?_ ?_<;>intro h
    ·refine cq 6 [2] [B (c_1.Day==0)] 401 ?_
     subst h
     exact rf [2] [] (j6 :)
    ·refine cq 6 [2] [B false] 401 ?_
     subst h
     exact rf [2] [] (j6 :)
   ·refine cq 11 [2] [B false] 401 ?_
    exact rf [2] [] (j4 _ (aj h) :)
  ·refine cq 5 [37] [B (c_1.Op==3)] 225 ?_
   refine sq h ?_ ?_<;>intro h
   ·refine cq 5 [41] [B ((len c_1.Parts)==0)] 273 ?_
    obtain⟨y7,hy7,hy71,hy72⟩:=bJ h
    have j7:∀u7,y7=.inr u7→Run jL 0 (gJ c_1 r) (.code O8::.blk 0::.code jM::[]) (sT 80 [(2,B u7)] [] 1):=by
     intro u7 hu
     replace h:=hy72 u7 hu
     obtain rfl:=sI h
     exact rP [B u7]
    have r7:∀r',y7=.inl r'→∀st,gJ c_1 r' st→(gJ c_1 r) st:=fun r' e st hq=>by rw[hy71 r' e] at hq;exact hq
    replace h:=hy7
    refine sp 41 h rfl ?_ ?_<;>intro h
    ·refine cq 5 [46] [B (c_1.Name==([]:ac))] 353 ?_
     obtain⟨y8,hy8,hy81,hy82⟩:=bL h
     have j8:∀u8,y8=.inr u8→Run jL 0 (gJ c_1 r) (.code O8::.blk 0::.code jM::[]) (sT 80 [(2,B u8)] [] 1):=by
      intro u8 hu
      replace h:=hy82 u8 hu
      exact rf [2] [] (j7 _ (aj h) :)
     have r8:∀r',y8=.inl r'→∀st,gJ c_1 r' st→(gJ c_1 r) st:=fun r' e st hq=>r7 r' (hy81 r' e) st hq
     replace h:=hy8
     refine sp 46 h rfl ?_ ?_<;>intro h
     ·refine cq 2 [48] [I c_1.Day] 385 ?_
      obtain⟨r9,hr9,h⟩:=bS h
      refine oy 401 (B r9) rfl (cP (FB hr9)) ?_
      refine cq 3 [2] [B r9] 433 ?_
      exact rf [2] [] (j8 _ (aj h) :)
     ·refine cq 6 [2] [B false] 433 ?_
      exact rf [2] [] (j8 _ (aj h) :)
    ·refine cq 11 [2] [B false] 433 ?_
     exact rf [2] [] (j7 _ (aj h) :)
   ·refine cq 5 [51] [B (c_1.Op==4)] 257 ?_
    refine sq h ?_ ?_<;>intro h
    ·refine cq 5 [55] [B ((len c_1.Parts)==1)] 305 ?_
     obtain⟨u10,hu10,h⟩:=lJ h
     have j10:Run jL 0 (gJ c_1 r) (.code O9::.blk 0::.code jM::[]) (sT 80 [(2,B u10)] [] 1):=by
      obtain rfl:=sI h
      exact rP [B u10]
     replace h:=hu10
     clear hu10
     refine sp 55 h rfl ?_ ?_<;>intro h
     ·refine cq 5 [60] [B (c_1.Name==([]:ac))] 385 ?_
      obtain⟨u11,hu11,h⟩:=lJ h
      have j11:Run jL 0 (gJ c_1 r) (.code O9::.blk 0::.code jM::[]) (sT 80 [(2,B u11)] [] 1):=by
       subst h
       exact rf [2] [] (j10 :)
      replace h:=hu11
      clear hu11
      refine sp 60 h rfl ?_ ?_<;>intro h
      ·refine cq 6 [2] [B (c_1.Day==0)] 465 ?_
       subst h
       exact rf [2] [] (j11 :)
      ·refine cq 6 [2] [B false] 465 ?_
       subst h
       exact rf [2] [] (j11 :)
     ·refine cq 11 [2] [B false] 465 ?_
      subst h
      exact rf [2] [] (j10 :)
    ·refine cq 6 [65] [B (c_1.Op==5)] 289 ?_
     obtain⟨u12,hu12,h⟩:=lJ h
     have j12:Run jL 0 (gJ c_1 r) (.code (cR (cR (cR (cR (cR (cR (cR (cR (cR (cL (cR (cL (cR (cR oo))))))))))))))::.blk 0::.code jM::[]) (sT 80 [(1,.hp 1 0 [] 4 0 0),(3,I (len c_1.Parts)),(65,B u12)] [⟨0,4,[ao c_1]⟩] 2):=by
      refine sq h ?_ ?_<;>intro h
      ·refine cq 5 [70] [B ((len c_1.Parts)==2)] 50 ?_
       obtain⟨u13,hu13,h⟩:=lJ h
       have j13:Run jL 0 (gJ c_1 r) (.code Pa::.blk 0::.code jM::[]) (sT 80 [(2,B u13)] [] 1):=by
        obtain rfl:=sI h
        exact rP [B u13]
       replace h:=hu13
       clear hu13
       refine sp 70 h rfl ?_ ?_<;>intro h
       ·refine cq 5 [75] [B (c_1.Name==([]:ac))] 130 ?_
        obtain⟨u14,hu14,h⟩:=lJ h
        have j14:Run jL 0 (gJ c_1 r) (.code Pa::.blk 0::.code jM::[]) (sT 80 [(2,B u14)] [] 1):=by
         subst h
         exact rf [2] [] (j13 :)
        replace h:=hu14
        clear hu14
        refine sp 75 h rfl ?_ ?_<;>intro h
        ·refine cq 6 [2] [B (c_1.Day==0)] 210 ?_
         subst h
         exact rf [2] [] (j14 :)
        ·refine cq 6 [2] [B false] 210 ?_
         subst h
         exact rf [2] [] (j14 :)
       ·refine cq 11 [2] [B false] 210 ?_
        subst h
        exact rf [2] [] (j13 :)
      ·refine aq 1 ?_
       refine cq 5 [2] [B false] 18 ?_
       obtain rfl:=sI h
       exact rP [B false]
     replace h:=hu12
     clear hu12
     refine sJ h rfl rfl ?_ ?_<;>intro h
     ·refine aq 1 ?_
      subst h
      exact rf [1,3,65] [1] (j12 :)
     ·refine cq 4 [65] [B (c_1.Op==6)] 321 ?_
      subst h
      exact rf [1,3,65] [1] (j12 :)
theorem Uc {G:bZ}:bV G 190 Co:=gT 1 0 (aO se (aO xc bz)) cd Tryz.func190 (fun a r h=>Xv a r h)
def xd:Condition→List V:=oA bF
def xe (r:Bool):V×List V:=(B r,[])
noncomputable def xf (cy:Condition→Option Bool):Ent:=bi [false] xd xe cy
theorem Pb (cy:Condition→Option Bool){x}{r}(h:cy x=some r):(xf cy).F (xd x)=some (xe r):=aH (aI dC) h
noncomputable def Cp :=xf (aL rn)
theorem ada {c_1:Condition}{r}(h:H9 c_1=some r):Cp.F (xd c_1)=some (xe r):=Pb (aL rn) h
noncomputable def Ue :=aF Tryz.f169
noncomputable def LT (cy:Condition→Option Bool):Env:=cb [(190,Co),(169,(xf cy))]
def Ud (cy:Condition→Option Bool)(x:Condition)(r:Bool):St→Prop:=QF (LT cy) Tryz.f169 [false] (xd x) (xe r)
theorem Ol (cy:Condition→Option Bool)(c_1:Condition):ch (LT cy) 0 (Ud cy c_1) (cL (cL (cR (cL (cR (cR Ue)))))) 0 (rc cy c_1) (fun u=>(sT 21 [] [] 1)) fun x3=>(sT 21 [(1,.hp 1 0 [] 4 0 0),(3,I x3)] [⟨0,4,[ao c_1]⟩] 2):=eg (zR cy c_1) fun {Q K} hK self ih x3 y h hr hn=>by
 unfold lE at h
 refine cq 6 [7,9] [I x3,.isl false (c_1.Parts.map aE)] 50 ?_
 refine oq 66 (I (len c_1.Parts)) rfl (bu rfl rfl rfl (bG rfl)) ?_
 refine cq 2 [11] [B (decide (x3<(len c_1.Parts)))] 82 ?_
 refine sq h ?_ ?_<;>intro h
 ·refine aq 1 ?_
  refine cq 7 [15,16] [.isl false (c_1.Parts.map aE),I x3] 130 ?_
  obtain⟨e4,he4,h⟩:=bS h
  refine oq 146 (.iptr (ao e4) 0) rfl (ak rfl rfl rfl (ba rfl rfl (dA e4) rfl he4)) ?_
  refine cq 1 [18] [ao e4] 162 ?_
  obtain⟨r5,hr5,h⟩:=bS h
  refine oq 178 (B r5) rfl (b8 rfl rfl (cu rfl rfl rfl (bd (bM rfl) dx) (Pb cy hr5) (.inr rfl) ec rfl rfl rfl)) ?_
  refine cq 2 [20] [B (!r5)] 194 ?_
  refine sq h ?_ ?_<;>intro h
  ·refine cq 4 [2] [B false] 210 ?_
   exact cr rfl (hr _ (aj h) _ (qp [B false]))
  ·refine aq 1 ?_
   refine cq 6 [3] [I (ai (x3+1))] 242 ?_
   refine cZ ?_
   exact rf [1,3] [1] (ih _ _ h hr hn :)
 ·refine aq 1 ?_
  exact rf [] [] (hn _ (aj h) :) (hk:=hK)
theorem Xx (cy:Condition→Option Bool)(c_1:Condition)(r:Bool)(h:tU cy c_1=some r):br (LT cy) Tryz.f169 [false] 0 (xd c_1) (xe r):=by
 show Run _ _ (Ud cy c_1 r) [.code Ue] _
 refine rI 21 [(0,ao c_1)] [] 1 ?_
 unfold tU at h
 refine ck 9 [1,4] [] [1] [] [.hp 1 0 [] 4 0 0,ao c_1] [some ⟨0,4,[ao c_1]⟩] 49 (by kernel_rfl) ?_
 obtain⟨r2,hr2,h⟩:=bS h
 refine oq 65 (B r2) rfl (cP (ac9 hr2)) ?_
 refine cq 2 [6] [B (!r2)] 81 ?_
 refine sq h ?_ ?_<;>intro h
 ·refine cq 4 [2] [B false] 97 ?_
  obtain rfl:=sI h
  exact rP [B false]
 ·refine aq 1 ?_
  refine cq 6 [3] [I (0)] 97 ?_
  obtain⟨y6,hy6,hy61,hy62⟩:=bJ h
  refine bN rfl ?_
  refine rf [1,3] [1] (Ol cy c_1 rfl 0 _ hy6 (fun r' e st hq=>by rw[hy61 r' e] at hq;exact hq) fun u6 hu=>?_)
  replace h:=hy62 u6 hu
  refine cq 4 [2] [B true] 17 ?_
  obtain rfl:=sI h
  exact rP [B true]
theorem Uf {G:bZ}:bV G 169 Cp:=kx fun cy g_Ffdt=>gT 1 0 (aO Uc (aO g_Ffdt bz)) cd Tryz.func169 (fun a r h=>Xx cy a r h)
def xo:Condition→List V:=oA bF
def xp (r:Int):V×List V:=(I r,[])
noncomputable def xq (cB:Condition→Option Int):Ent:=bi [false] xo xp cB
theorem Pd (cB:Condition→Option Int){x}{r}(h:cB x=some r):(xq cB).F (xo x)=some (xp r):=aH (aI dC) h
noncomputable def Cw :=xq (aL lH)
theorem ade {c_1:Condition}{r}(h:L1 c_1=some r):Cw.F (xo c_1)=some (xp r):=Pd (aL lH) h
noncomputable def Us :=aF Tryz.f170
noncomputable def L3 (cB:Condition→Option Int):Env:=cb [(170,(xq cB))]
def Ur (cB:Condition→Option Int)(x:Condition)(r:Int):St→Prop:=QF (L3 cB) Tryz.f170 [false] (xo x) (xp r)
theorem Ou (cB:Condition→Option Int)(c_1:Condition):ch (L3 cB) 0 (Ur cB c_1) (cL (cL (cR (cL (cR (cR Us)))))) 0 (mg cB c_1) (fun u=>(sT 21 [(3,I u)] [] 1)) fun x2=>(sT 21 [(1,.hp 1 0 [] 4 0 0),(3,I x2.1),(4,I x2.2)] [⟨0,4,[ao c_1]⟩] 2):=eg (zW cB c_1) fun {Q K} hK self ih x2 y h hr hn=>by
 unfold kg at h
 refine cq 6 [5,7] [I x2.2,.isl false (c_1.Parts.map aE)] 50 ?_
 refine oq 66 (I (len c_1.Parts)) rfl (bu rfl rfl rfl (bG rfl)) ?_
 refine cq 2 [9] [B (decide (x2.2<(len c_1.Parts)))] 82 ?_
 refine sq h ?_ ?_<;>intro h
 ·refine aq 1 ?_
  refine cq 7 [12,14,15] [I x2.1,.isl false (c_1.Parts.map aE),I x2.2] 146 ?_
  obtain⟨e3,he3,h⟩:=bS h
  refine oq 162 (.iptr (ao e3) 0) rfl (ak rfl rfl rfl (ba rfl rfl (dA e3) rfl he3)) ?_
  refine cq 1 [17] [ao e3] 178 ?_
  obtain⟨r4,hr4,h⟩:=bS h
  refine oq 194 (I r4) rfl (b8 rfl rfl (cu rfl rfl rfl (bd (bM rfl) dx) (Pd cB hr4) (.inr rfl) ec rfl rfl rfl)) ?_
  refine cq 9 [3,4] [I (ai (x2.1+r4)),I (ai (x2.2+1))] 274 ?_
  refine cZ ?_
  exact rf [1,3,4] [1] (ih _ _ h hr hn :)
 ·refine aq 1 ?_
  exact rf [3] [] (hn _ (aj h) :) (hk:=hK)
theorem XH (cB:Condition→Option Int)(c_1:Condition)(r:Int)(h:ub cB c_1=some r):br (L3 cB) Tryz.f170 [false] 0 (xo c_1) (xp r):=by
 show Run _ _ (Ur cB c_1 r) [.code Us] _
 refine rI 21 [(0,ao c_1)] [] 1 ?_
 unfold ub at h
 refine ck 15 [1,3,4] [] [1] [] [.hp 1 0 [] 4 0 0,I (1),I (0)] [some ⟨0,4,[ao c_1]⟩] 65 (by kernel_rfl) ?_
 obtain⟨y5,hy5,hy51,hy52⟩:=bJ h
 refine bN rfl ?_
 refine rf [1,3,4] [1] (Ou cB c_1 rfl (1,0) _ hy5 (fun r' e st hq=>by rw[hy51 r' e] at hq;exact hq) fun u5 hu=>?_)
 replace h:=hy52 u5 hu
 refine cq 5 [2] [I u5] 33 ?_
 obtain rfl:=sI h
 exact rP [I u5]
theorem Ut {G:bZ}:bV G 170 Cw:=kx fun cB g_Ffea=>gT 1 0 (aO g_Ffea bz) cd Tryz.func170 (fun a r h=>XH cB a r h)
def FI:Condition→List V:=oA bF
def FK (r:Bool):V×List V:=(B r,[])
noncomputable def Cr :=bi [false] FI FK fun x=>Cq x
theorem adb {c_1:Condition}{r}(h:Cq c_1=some r):Cr.F (FI c_1)=some (FK r):=aH (aI dC) h
noncomputable def Ug :=aF Tryz.f135
noncomputable def LU :=cb [(169,Cp),(170,Cw)]
def FJ (x:Condition)(r:Bool):St→Prop:=QF LU Tryz.f135 [false] (FI x) (FK r)
theorem Xy (c_1:Condition)(r:Bool)(h:Cq c_1=some r):br LU Tryz.f135 [false] 0 (FI c_1) (FK r):=by
 show Run _ _ (FJ c_1 r) [.code Ug] _
 refine rI 10 [(0,ao c_1)] [] 1 ?_
 unfold Cq at h
 refine ck 8 [1,3] [] [1] [] [.hp 1 0 [] 4 0 0,ao c_1] [some ⟨0,4,[ao c_1]⟩] 49 (by kernel_rfl) ?_
 obtain⟨r2,hr2,h⟩:=bS h
 refine oq 65 (B r2) rfl (cP (ada hr2)) ?_
 refine cq 1 [5] [B r2] 81 ?_
 obtain⟨y3,hy3,hy31,hy32⟩:=bJ h
 have j3:∀u3,y3=.inr u3→Run LU 0 (FJ c_1 r) (.code (cR (cR Ug))::[]) (sT 10 [(2,B u3)] [] 1):=by
  intro u3 hu
  replace h:=hy32 u3 hu
  obtain rfl:=sI h
  exact rP [B u3]
 have r3:∀r',y3=.inl r'→∀st,FJ c_1 r' st→(FJ c_1 r) st:=fun r' e st hq=>by rw[hy31 r' e] at hq;exact hq
 replace h:=hy3
 refine sp 5 h rfl ?_ ?_<;>intro h
 ·refine cq 1 [6] [ao c_1] 97 ?_
  obtain⟨r4,hr4,h⟩:=bS h
  refine oy 113 (I r4) rfl (cP (ade hr4)) ?_
  refine cq 4 [2] [B (decide (r4≤15))] 161 ?_
  exact rf [2] [] (j3 _ (aj h) :)
 ·refine cq 6 [2] [B false] 161 ?_
  exact rf [2] [] (j3 _ (aj h) :)
theorem Uh {G:bZ}:bV G 135 Cr:=gT 1 0 (aO Uf (aO Ut bz)) cd Tryz.func135 (fun a r h=>Xy a r h)
def FW:(Contract×Int)→List V:=cA aM (oA I)
def FX (r:Bool):V×List V:=(B r,[])
noncomputable def Cy :=bi [false,false] FW FX fun x=>Cx x.1 x.2
theorem Uu {c_1:Contract}{i_2:Int}{r}(h:Cx c_1 i_2=some r):Cy.F (FW (c_1,i_2))=some (FX r):=aH (aJ aU (aI bo)) h
noncomputable def L4 :=aF Tryz.f92
noncomputable abbrev nN :=cR (cR (cR (cR L4)))
noncomputable abbrev rd :=cR (cL (cR (cR (cR L4))))
noncomputable abbrev uc :=cR nN
noncomputable abbrev yC :=cR (cL nN)
noncomputable abbrev Ib :=cR (cR (cR uc))
noncomputable def iK :=cb [(80,pi),(89,fF),(91,vp),(135,Cr)]
def eo (x:Contract×Int)(r:Bool):St→Prop:=QF iK Tryz.f92 [false,false] (FW x) (FX r)
theorem XI (c_1:Contract)(i_2:Int)(r:Bool)(h:Cx c_1 i_2=some r):br iK Tryz.f92 [false,false] 0 (FW (c_1,i_2)) (FX r):=by
 show Run _ _ (eo (c_1,i_2) r) [.code L4] _
 refine rI 114 [(0,aa c_1),(1,I i_2)] [] 1 ?_
 unfold Cx at h
 refine ck 10 [2,9,10] [] [1] [] [.hp 1 0 [] 2 0 0,.isl false (c_1.Clauses.map ap),I i_2] [some ⟨0,2,[aa c_1]⟩] 81 (by kernel_rfl) ?_
 obtain⟨e3,he3,h⟩:=bS h
 refine oq 97 (.iptr (au e3) 0) rfl (ak rfl rfl rfl (ba rfl rfl rfl rfl he3)) ?_
 refine ck 2 [5,12] [] [113] [] [.hp 113 0 [] 12 0 0,au e3] [some ⟨0,12,[.agg [str ([]),I (0),I (0),str ([]),I (0),I (0),I (0),str ([]),I (0),.isl true [],I (0),str ([])]]⟩] 129 (by kernel_rfl) ?_
 refine fP 113 [.agg [str ([]),I (0),I (0),str ([]),I (0),I (0),I (0),str ([]),I (0),.usl 4 (([]).map aC),I (0),str ([])]] rfl rfl (aP (hY (aP (.refl _) (aP (.refl _) (aP (.refl _) (aP (.refl _) (aP (.refl _) (aP (.refl _) (aP (.refl _) (aP (.refl _) (aP (.refl _) (aP (.nil _) (aP (.refl _) (aP (.refl _) eT))))))))))))) eT) ?_
 refine ck 6 [14] [] [113] [] [.isl false (c_1.Parties.map str)] [some ⟨2,12,[au e3]⟩] 177 (by kernel_rfl) ?_
 refine oq 193 (I (len c_1.Parties)) rfl (bu rfl rfl rfl (bG rfl)) ?_
 refine cq 7 [6,17] [I (len c_1.Parties),str e3.Id] 241 ?_
 obtain⟨r4,hr4,h⟩:=bS h
 refine oq 257 (B r4) rfl (cP (rp hr4)) ?_
 refine cq 2 [20] [B (!r4)] 289 ?_
 obtain⟨y5,hy5,hy51,hy52⟩:=bJ h
 have j5:∀u5,y5=.inr u5→Run iK 0 (eo (c_1,i_2) r) (.code rd::.code nN::[]) (sT 114 [(1,I i_2),(2,.hp 1 0 [] 2 0 0),(5,.hp 2 0 [] 12 0 0),(60,B u5)] [⟨0,2,[aa c_1]⟩,⟨0,12,[au e3]⟩] 3):=by
  intro u5 hu
  replace h:=hy52 u5 hu
  refine sq h ?_ ?_<;>intro h
  ·refine cq 4 [4] [B false] 19 ?_
   obtain rfl:=sI h
   exact rP [B false]
  ·refine aq 1 ?_
   refine cq 5 [62] [I e3.Amount] 35 ?_
   obtain⟨r6,hr6,h⟩:=bS h
   refine oq 51 (B r6) rfl (cP (et hr6)) ?_
   refine cq 2 [65] [B (!r6)] 83 ?_
   obtain⟨y7,hy7,hy71,hy72⟩:=bJ h
   have j7:∀u7,y7=.inr u7→Run iK 0 (eo (c_1,i_2) r) (.code yC::.code uc::[]) (sT 114 [(1,I i_2),(2,.hp 1 0 [] 2 0 0),(5,.hp 2 0 [] 12 0 0),(85,B u7)] [⟨0,2,[aa c_1]⟩,⟨0,12,[au e3]⟩] 3):=by
    intro u7 hu
    replace h:=hy72 u7 hu
    refine sq h ?_ ?_<;>intro h
    ·refine cq 4 [4] [B false] 19 ?_
     obtain rfl:=sI h
     exact rP [B false]
    ·refine aq 1 ?_
     refine cq 7 [88] [B (e3.Repair==([]:ac))] 51 ?_
     refine sq h ?_ ?_<;>intro h
     ·refine cq 4 [4] [B true] 67 ?_
      obtain rfl:=sI h
      exact rP [B true]
     ·refine aq 1 ?_
      refine cq 5 [89,91] [aa c_1,str e3.Repair] 99 ?_
      obtain⟨r8,hr8,h⟩:=bS h
      refine oq 115 (I r8) rfl (cP (L7 hr8)) ?_
      refine cq 7 [7,95] [I r8,B (decide (r8≥0))] 179 ?_
      obtain⟨y9,hy9,hy91,hy92⟩:=bJ h
      have j9:∀u9,y9=.inr u9→Run iK 0 (eo (c_1,i_2) r) (.code Ib::[]) (sT 114 [(4,B u9)] [] 1):=by
       intro u9 hu
       replace h:=hy92 u9 hu
       obtain rfl:=sI h
       exact rP [B u9]
      have r9:∀r',y9=.inl r'→∀st,eo (c_1,i_2) r' st→(eo (c_1,i_2) r) st:=fun r' e st hq=>by rw[hy91 r' e] at hq;exact hq
      replace h:=hy9
      refine sp 95 h rfl ?_ ?_<;>intro h
      ·refine cq 5 [100] [B (r8 != i_2)] 259 ?_
       obtain⟨y10,hy10,hy101,hy102⟩:=bL h
       have j10:∀u10,y10=.inr u10→Run iK 0 (eo (c_1,i_2) r) (.code Ib::[]) (sT 114 [(4,B u10)] [] 1):=by
        intro u10 hu
        replace h:=hy102 u10 hu
        exact rf [4] [] (j9 _ (aj h) :)
       have r10:∀r',y10=.inl r'→∀st,eo (c_1,i_2) r' st→(eo (c_1,i_2) r) st:=fun r' e st hq=>r9 r' (hy101 r' e) st hq
       replace h:=hy10
       refine sp 100 h rfl ?_ ?_<;>intro h
       ·refine cq 3 [102,103] [.isl false (c_1.Clauses.map ap),I r8] 307 ?_
        obtain⟨e11,he11,h⟩:=bS h
        refine oy 323 (.iptr (au e11) 0) rfl (ak rfl rfl rfl (ba rfl rfl rfl rfl he11)) ?_
        refine cq 5 [109] [B (e11.Kind==1)] 403 ?_
        obtain⟨u12,hu12,h⟩:=lJ h
        have j12:Run iK 0 (eo (c_1,i_2) r) (.code Ib::[]) (sT 114 [(4,B u12)] [] 1):=by
         exact rf [4] [] (j10 _ (aj h) :)
        replace h:=hu12
        clear hu12
        refine sp 109 h rfl ?_ ?_<;>intro h
        ·refine cq 6 [4] [B (e3.Kind != 3)] 483 ?_
         subst h
         exact rf [4] [] (j12 :)
        ·refine cq 6 [4] [B false] 483 ?_
         subst h
         exact rf [4] [] (j12 :)
       ·refine cq 15 [4] [B false] 483 ?_
        exact rf [4] [] (j10 _ (aj h) :)
      ·refine cq 20 [4] [B false] 483 ?_
       exact rf [4] [] (j9 _ (aj h) :)
   have r7:∀r',y7=.inl r'→∀st,eo (c_1,i_2) r' st→(eo (c_1,i_2) r) st:=fun r' e st hq=>by rw[hy71 r' e] at hq;exact hq
   replace h:=hy7
   refine sp 65 h rfl ?_ ?_<;>intro h
   ·refine cq 21 [85] [B true] 403 ?_
    exact rf [1,2,5,85] [1,2] (j7 _ (aj h) :)
   ·refine cq 2 [67] [I e3.Within] 115 ?_
    obtain⟨r13,hr13,h⟩:=bS h
    refine oy 131 (B r13) rfl (cP (et hr13)) ?_
    refine cq 3 [71] [B (!r13)] 179 ?_
    obtain⟨u14,hu14,h⟩:=lJ h
    have j14:Run iK 0 (eo (c_1,i_2) r) (.code yC::.code uc::[]) (sT 114 [(1,I i_2),(2,.hp 1 0 [] 2 0 0),(5,.hp 2 0 [] 12 0 0),(85,B u14)] [⟨0,2,[aa c_1]⟩,⟨0,12,[au e3]⟩] 3):=by
     exact rf [1,2,5,85] [1,2] (j7 _ (aj h) :)
    replace h:=hu14
    clear hu14
    refine sp 71 h rfl ?_ ?_<;>intro h
    ·refine cq 15 [85] [B true] 403 ?_
     subst h
     exact rf [1,2,5,85] [1,2] (j14 :)
    ·refine cq 4 [75] [B (e3.Kind != 1)] 243 ?_
     obtain⟨u15,hu15,h⟩:=lJ h
     have j15:Run iK 0 (eo (c_1,i_2) r) (.code yC::.code uc::[]) (sT 114 [(1,I i_2),(2,.hp 1 0 [] 2 0 0),(5,.hp 2 0 [] 12 0 0),(85,B u15)] [⟨0,2,[aa c_1]⟩,⟨0,12,[au e3]⟩] 3):=by
      subst h
      exact rf [1,2,5,85] [1,2] (j14 :)
     replace h:=hu15
     clear hu15
     refine sp 75 h rfl ?_ ?_<;>intro h
     ·refine cq 4 [79] [B (e3.Amount != 0)] 307 ?_
      obtain⟨u16,hu16,h⟩:=lJ h
      have j16:Run iK 0 (eo (c_1,i_2) r) (.code yC::.code uc::[]) (sT 114 [(1,I i_2),(2,.hp 1 0 [] 2 0 0),(5,.hp 2 0 [] 12 0 0),(85,B u16)] [⟨0,2,[aa c_1]⟩,⟨0,12,[au e3]⟩] 3):=by
       subst h
       exact rf [1,2,5,85] [1,2] (j15 :)
      replace h:=hu16
      clear hu16
      refine sp 79 h rfl ?_ ?_<;>intro h
      ·refine cq 7 [85] [B true] 403 ?_
       subst h
       exact rf [1,2,5,85] [1,2] (j16 :)
      ·refine cq 7 [85] [B (e3.Within != 0)] 403 ?_
       subst h
       exact rf [1,2,5,85] [1,2] (j16 :)
     ·refine cq 11 [85] [B false] 403 ?_
      subst h
      exact rf [1,2,5,85] [1,2] (j15 :)
 have r5:∀r',y5=.inl r'→∀st,eo (c_1,i_2) r' st→(eo (c_1,i_2) r) st:=fun r' e st hq=>by rw[hy51 r' e] at hq;exact hq
 replace h:=hy5
 refine sp 20 h rfl ?_ ?_<;>intro h
 ·refine cq 41 [60] [B true] 929 ?_
  exact rf [1,2,5,60] [1,113] (j5 _ (aj h) :)
 ·refine cq 2 [22] [str e3.Action] 321 ?_
  obtain⟨r17,hr17,h⟩:=bS h
  refine oy 337 (B r17) rfl (cP (rp hr17)) ?_
  refine cq 3 [26] [B (!r17)] 385 ?_
  obtain⟨y18,hy18,hy181,hy182⟩:=bL h
  have j18:∀u18,y18=.inr u18→Run iK 0 (eo (c_1,i_2) r) (.code rd::.code nN::[]) (sT 114 [(1,I i_2),(2,.hp 1 0 [] 2 0 0),(5,.hp 2 0 [] 12 0 0),(60,B u18)] [⟨0,2,[aa c_1]⟩,⟨0,12,[au e3]⟩] 3):=by
   intro u18 hu
   replace h:=hy182 u18 hu
   exact rf [1,2,5,60] [1,2] (j5 _ (aj h) :)
  have r18:∀r',y18=.inl r'→∀st,eo (c_1,i_2) r' st→(eo (c_1,i_2) r) st:=fun r' e st hq=>r5 r' (hy181 r' e) st hq
  replace h:=hy18
  refine sp 26 h rfl ?_ ?_<;>intro h
  ·refine cq 35 [60] [B true] 929 ?_
   exact rf [1,2,5,60] [1,113] (j18 _ (aj h) :)
  ·refine cq 2 [28] [I e3.Kind] 417 ?_
   obtain⟨r19,hr19,h⟩:=bS h
   refine oy 433 (B r19) rfl (cP (et hr19)) ?_
   refine cq 3 [32] [B (!r19)] 481 ?_
   obtain⟨y20,hy20,hy201,hy202⟩:=bL h
   have j20:∀u20,y20=.inr u20→Run iK 0 (eo (c_1,i_2) r) (.code rd::.code nN::[]) (sT 114 [(1,I i_2),(2,.hp 1 0 [] 2 0 0),(5,.hp 2 0 [] 12 0 0),(60,B u20)] [⟨0,2,[aa c_1]⟩,⟨0,12,[au e3]⟩] 3):=by
    intro u20 hu
    replace h:=hy202 u20 hu
    exact rf [1,2,5,60] [1,2] (j18 _ (aj h) :)
   have r20:∀r',y20=.inl r'→∀st,eo (c_1,i_2) r' st→(eo (c_1,i_2) r) st:=fun r' e st hq=>r18 r' (hy201 r' e) st hq
   replace h:=hy20
   refine sp 32 h rfl ?_ ?_<;>intro h
   ·refine cq 29 [60] [B true] 929 ?_
    exact rf [1,2,5,60] [1,113] (j20 _ (aj h) :)
   ·refine cq 4 [34,36] [I e3.Party,I (ai ((len c_1.Parties) - 1))] 545 ?_
    obtain⟨r21,hr21,h⟩:=bS h
    refine oy 561 (B r21) rfl (cP (et hr21)) ?_
    refine cq 3 [40] [B (!r21)] 609 ?_
    obtain⟨y22,hy22,hy221,hy222⟩:=bL h
    have j22:∀u22,y22=.inr u22→Run iK 0 (eo (c_1,i_2) r) (.code rd::.code nN::[]) (sT 114 [(1,I i_2),(2,.hp 1 0 [] 2 0 0),(5,.hp 2 0 [] 12 0 0),(60,B u22)] [⟨0,2,[aa c_1]⟩,⟨0,12,[au e3]⟩] 3):=by
     intro u22 hu
     replace h:=hy222 u22 hu
     exact rf [1,2,5,60] [1,2] (j20 _ (aj h) :)
    have r22:∀r',y22=.inl r'→∀st,eo (c_1,i_2) r' st→(eo (c_1,i_2) r) st:=fun r' e st hq=>r20 r' (hy221 r' e) st hq
    replace h:=hy22
    refine sp 40 h rfl ?_ ?_<;>intro h
    ·refine cq 21 [60] [B true] 929 ?_
     exact rf [1,2,5,60] [1,113] (j22 _ (aj h) :)
    ·refine cq 4 [42,44] [I e3.Other,I (ai ((len c_1.Parties) - 1))] 673 ?_
     obtain⟨r23,hr23,h⟩:=bS h
     refine oy 689 (B r23) rfl (cP (et hr23)) ?_
     refine cq 3 [48] [B (!r23)] 737 ?_
     obtain⟨y24,hy24,hy241,hy242⟩:=bL h
     have j24:∀u24,y24=.inr u24→Run iK 0 (eo (c_1,i_2) r) (.code rd::.code nN::[]) (sT 114 [(1,I i_2),(2,.hp 1 0 [] 2 0 0),(5,.hp 2 0 [] 12 0 0),(60,B u24)] [⟨0,2,[aa c_1]⟩,⟨0,12,[au e3]⟩] 3):=by
      intro u24 hu
      replace h:=hy242 u24 hu
      exact rf [1,2,5,60] [1,2] (j22 _ (aj h) :)
     have r24:∀r',y24=.inl r'→∀st,eo (c_1,i_2) r' st→(eo (c_1,i_2) r) st:=fun r' e st hq=>r22 r' (hy241 r' e) st hq
     replace h:=hy24
     refine sp 48 h rfl ?_ ?_<;>intro h
     ·refine cq 13 [60] [B true] 929 ?_
      exact rf [1,2,5,60] [1,113] (j24 _ (aj h) :)
     ·refine cq 7 [55] [B (e3.Party==e3.Other)] 849 ?_
      obtain⟨y25,hy25,hy251,hy252⟩:=bL h
      have j25:∀u25,y25=.inr u25→Run iK 0 (eo (c_1,i_2) r) (.code rd::.code nN::[]) (sT 114 [(1,I i_2),(2,.hp 1 0 [] 2 0 0),(5,.hp 2 0 [] 12 0 0),(60,B u25)] [⟨0,2,[aa c_1]⟩,⟨0,12,[au e3]⟩] 3):=by
       intro u25 hu
       replace h:=hy252 u25 hu
       exact rf [1,2,5,60] [1,2] (j24 _ (aj h) :)
      have r25:∀r',y25=.inl r'→∀st,eo (c_1,i_2) r' st→(eo (c_1,i_2) r) st:=fun r' e st hq=>r24 r' (hy251 r' e) st hq
      replace h:=hy25
      refine sp 55 h rfl ?_ ?_<;>intro h
      ·refine cq 6 [60] [B true] 929 ?_
       exact rf [1,2,5,60] [1,113] (j25 _ (aj h) :)
      ·refine cq 2 [57] [ao e3.When] 881 ?_
       obtain⟨r26,hr26,h⟩:=bS h
       refine oy 897 (B r26) rfl (cP (adb hr26)) ?_
       refine cq 3 [60] [B (!r26)] 929 ?_
       exact rf [1,2,5,60] [1,113] (j25 _ (aj h) :)
theorem Uv {G:bZ}:bV G 92 Cy:=gT 2 0 (aO se (aO f9 (aO I7 (aO Uh bz)))) cd Tryz.func92 (fun a r h=>XI a.1 a.2 r h)
def FQ:((List ac)×ac)→List V:=cA (rV 1 str) (oA str)
def FR (r:(List ac)):V×List V:=(.usl 1 (r.map str),[.dead])
noncomputable def vn :=bi [true,false] FQ FR fun x=>xj x.1 x.2
theorem LZ {l_8:List ac}{s_9:ac}{r}(h:xj l_8 s_9=some r):vn.F (FQ (l_8,s_9))=some (FR r):=aH (aJ (jc bT) (aI bT)) h
noncomputable def rq :=aF Tryz.f137
noncomputable def xk :=cb []
def tY (x:(List ac)×ac)(r:(List ac)):St→Prop:=QF xk Tryz.f137 [true,false] (FQ x) (FR r)
theorem Ot (l_8:List ac)(s_9:ac):ch xk 1 (tY (l_8,s_9)) (cL (cL (cL (cR (cR rq))))) 0 (tZ l_8 s_9) (fun u=>(sO 45 [(0,.hs 2 0 [] 1 0 (u.2.2.map str).length),(1,str u.1),(5,I u.2.1)] [none,some ⟨0,1,u.2.2.map str⟩] 3)) fun x3=>(sO 45 [(0,.hs 2 0 [] 1 0 (l_8.map str).length),(1,str s_9),(5,I x3)] [none,some ⟨0,1,l_8.map str⟩] 3):=eg (zV l_8 s_9) fun {Q K} hK self ih x3 y h hr hn=>by
 unfold lG at h
 refine cq 5 [6,7] [I x3,.hs 2 0 [] 1 0 (l_8.map str).length] 35 ?_
 refine oq 51 (I (len l_8)) rfl (bu rfl rfl rfl (vQ (f:=str) (xs:=l_8) rfl rfl)) ?_
 refine cq 2 [10] [B (decide (x3<(len l_8)))] 83 ?_
 obtain⟨y4,hy4,hy41,hy42⟩:=bL h
 have j4:∀u4,y4=.inr u4→Run xk 1 Q (.code (cR (cL (cL (cL (cL (cR (cR rq)))))))::.code (cR (cL (cL (cL (cR (cR rq))))))::.lp (cL (cL (cL (cR (cR rq)))))::.blk 0::K) (sO 45 [(0,.hs 2 0 [] 1 0 (l_8.map str).length),(1,str s_9),(5,I x3),(17,B u4)] [none,some ⟨0,1,l_8.map str⟩] 3):=by
  intro u4 hu
  replace h:=hy42 u4 hu
  refine sq h ?_ ?_<;>intro h
  ·refine aq 1 ?_
   refine cq 7 [5] [I (ai (x3+1))] 51 ?_
   refine cZ ?_
   exact rg [0,1,5] [52,2] (ih _ _ h hr hn :)
  ·refine aq 1 ?_
   exact rg [0,1,5] [4,2] (hn _ (aj h) :) (hk:=hK)
 have r4:∀r',y4=.inl r'→∀st,tY (l_8,s_9) r' st→Q st:=fun r' e st hq=>hr r' (hy41 r' e) st hq
 replace h:=hy4
 refine sp 10 h rfl ?_ ?_<;>intro h
 ·refine cq 2 [11,12] [.hs 2 0 [] 1 0 (l_8.map str).length,I x3] 115 ?_
  obtain⟨e5,he5,h⟩:=bS h
  refine oy 131 (.hp 2 0 [] 1 (0+Int.toNat x3) 0) rfl (ak rfl rfl rfl (dU (f:=str) (xs:=l_8) rfl rfl rfl he5)) ?_
  refine oy 147 (str e5) rfl (aN rfl (ge (path:=[]) rfl rfl rfl aX (dh (f:=str) (xs:=l_8) he5) rfl rfl rfl)) ?_
  refine cq 4 [17] [B (Op.bytesLess e5 s_9)] 195 ?_
  exact rg [0,1,5,17] [196,2] (j4 _ (aj h) :)
 ·refine cq 8 [17] [B false] 195 ?_
  exact rg [0,1,5,17] [196,2] (j4 _ (aj h) :)
theorem XD (l_8:List ac)(s_9:ac)(r:(List ac))(h:xj l_8 s_9=some r):br xk Tryz.f137 [true,false] 1 (FQ (l_8,s_9)) (FR r):=by
 show Run _ _ (tY (l_8,s_9) r) [.code rq] _
 refine rI 45 [(0,.hs 1 0 [] 1 0 (l_8.map str).length),(1,str s_9)] [(1,some ⟨0,1,l_8.map str⟩)] 2 ?_
 unfold xj at h
 refine cq 10 [5] [I (0)] 34 ?_
 obtain⟨y6,hy6,hy61,hy62⟩:=bJ h
 refine bN rfl ?_
 refine rg [0,1,5] [35,1] (Ot l_8 s_9 rfl 0 _ hy6 (fun r' e st hq=>by rw[hy61 r' e] at hq;exact hq) fun u6 hu=>?_)
 replace h:=hy62 u6 hu
 refine cq 5 [20,21] [I u6.2.1,.hs 2 0 [] 1 0 (u6.2.2.map str).length] 35 ?_
 refine oq 51 (I (len u6.2.2)) rfl (bu rfl rfl rfl (vQ (f:=str) (xs:=u6.2.2) rfl rfl)) ?_
 refine cq 2 [24] [B (decide (u6.2.1<(len u6.2.2)))] 83 ?_
 obtain⟨y7,hy7,hy71,hy72⟩:=bJ h
 have j7:∀u7,y7=.inr u7→Run xk 1 (tY (l_8,s_9) r) (.code (cR (cL (cR (cR (cR rq)))))::.code (cR (cR (cR (cR rq))))::[]) (sO 45 [(0,.hs 2 0 [] 1 0 (u6.2.2.map str).length),(1,str u6.1),(5,I u6.2.1),(31,B u7)] [none,some ⟨0,1,u6.2.2.map str⟩] 3):=by
  intro u7 hu
  replace h:=hy72 u7 hu
  refine sq h ?_ ?_<;>intro h
  ·refine cq 5 [4] [.hs 2 0 [] 1 0 (u6.2.2.map str).length] 35 ?_
   obtain rfl:=sI h
   exact cr rfl ⟨_,fin (vs:=[.hs 2 0 [] 1 0 (u6.2.2.map str).length]) rfl (gC (gk rfl (dZ rfl rfl)) eI) rfl (lY rfl (qM rfl) (dw fD)),vP fz⟩
  ·refine aq 1 ?_
   refine aq 1 ?_
   refine dK [0,0,0,6,15,0,32,127,0,0,768,2047,4095] rfl (by decide +kernel) ?_
   refine dq [] [] (.hs 3 0 [] 1 0 0) rfl (eW rfl (mo (f:=I) (xs:=[]) (z:=str ([])) (es:=[]) (ws:=[]) rfl rfl rfl (by decide) rfl (d9 rfl) rfl)) ?_
   refine dk 2 [35,34] [I u6.2.1,.hs 2 0 [] 1 0 (u6.2.2.map str).length] ?_
   obtain⟨s8,hs8,h⟩:=bS h
   refine dq [2] [] (.hs 2 0 [] 1 (0+Int.toNat (0)) (Int.toNat u6.2.1 - Int.toNat (0))) rfl (il rfl rfl rfl rfl (uR (f:=str) (xs:=u6.2.2) rfl rfl rfl rfl rfl hs8)) ?_
   obtain⟨p9,hp9,h⟩:=bS h
   obtain⟨a10,ha10,h⟩:=bS h
   refine dq [3,2] [3] (.hs 67 0 [] 1 0 (a10.map str).length) rfl (ks rfl rfl rfl rfl rfl (oz (path:=[]) (es0:=[]) (f:=str) (xs:=([]:List ac)) (ys:=p9) rfl rfl (PN (path:=[]) (f:=str) (xs:=u6.2.2) rfl rfl aX hp9 ni) rfl rfl rfl rfl rfl (by decide) l9 ha10 rfl rU)) ?_ (HN rfl (GY (path:=[]) (f:=str) (xs:=u6.2.2) rfl rfl aX ni rfl))
   refine dk 1 [38] [str u6.1] ?_
   refine dq [] [] (.hs 99 0 [] 1 0 1) rfl (eW rfl (mo (f:=I) (xs:=[]) (z:=str ([])) (es:=[str u6.1]) (ws:=[str u6.1]) rfl rfl rfl (by decide) rfl (d9 rfl) rfl)) ?_
   obtain⟨a11,ha11,h⟩:=bS h
   refine dq [67,99] [67] (.hs 115 0 [] 1 0 (a11.map str).length) rfl (ks rfl rfl rfl rfl rfl (oz (path:=[]) (f:=str) (xs:=a10) (ys:=[u6.1]) rfl rfl (uT rfl rfl rfl) rfl rfl rfl aX rfl (by decide) l9 ha11 rfl rU)) ?_ (HN rfl (GY (path:=[]) (f:=str) (xs:=[u6.1]) rfl rfl aX ni rfl))
   refine dk 2 [42,41] [I u6.2.1,.hs 2 0 [] 1 0 (u6.2.2.map str).length] ?_
   obtain⟨s12,hs12,h⟩:=bS h
   refine dq [2] [] (.hs 2 0 [] 1 (0+Int.toNat u6.2.1) (Int.toNat (len u6.2.2) - Int.toNat u6.2.1)) rfl (il rfl rfl rfl rfl (uR (f:=str) (xs:=u6.2.2) rfl rfl rfl rfl (Yi rfl) hs12)) ?_
   obtain⟨p13,hp13,h⟩:=bS h
   obtain⟨a14,ha14,h⟩:=bS h
   refine dq [115,2] [115] (.hs 179 0 [] 1 0 (a14.map str).length) rfl (ks rfl rfl rfl rfl rfl (oz (path:=[]) (f:=str) (xs:=a11) (ys:=p13) rfl rfl (PN (path:=[]) (f:=str) (xs:=u6.2.2) rfl rfl aX hp13 ni) rfl rfl rfl aX rfl (by decide) l9 ha14 rfl rU)) ?_ (HN rfl (GY (path:=[]) (f:=str) (xs:=u6.2.2) rfl rfl aX ni rfl))
   refine dk 1 [4] [.hs 179 0 [] 1 0 (a14.map str).length] ?_
   refine de 211 rfl rfl ?_
   obtain rfl:=sI h
   exact cr rfl ⟨_,fin (vs:=[.hs 179 0 [] 1 0 (a14.map str).length]) rfl (gC (gk rfl (dZ rfl rfl)) eI) rfl (lY rfl (qM rfl) (dw fD)),vP fz⟩
 have r7:∀r',y7=.inl r'→∀st,tY (l_8,s_9) r' st→(tY (l_8,s_9) r) st:=fun r' e st hq=>by rw[hy71 r' e] at hq;exact hq
 replace h:=hy7
 refine sp 24 h rfl ?_ ?_<;>intro h
 ·refine cq 2 [25,26] [.hs 2 0 [] 1 0 (u6.2.2.map str).length,I u6.2.1] 115 ?_
  obtain⟨e15,he15,h⟩:=bS h
  refine oy 131 (.hp 2 0 [] 1 (0+Int.toNat u6.2.1) 0) rfl (ak rfl rfl rfl (dU (f:=str) (xs:=u6.2.2) rfl rfl rfl he15)) ?_
  refine oy 147 (str e15) rfl (aN rfl (ge (path:=[]) rfl rfl rfl aX (dh (f:=str) (xs:=u6.2.2) he15) rfl rfl rfl)) ?_
  refine cq 4 [31] [B (e15==u6.1)] 195 ?_
  exact rg [0,1,5,31] [196,2] (j7 _ (aj h) :)
 ·refine cq 8 [31] [B false] 195 ?_
  exact rg [0,1,5,31] [196,2] (j7 _ (aj h) :)
theorem I6 {G:bZ}:bV G 137 vn:=gT 2 1 bz cd Tryz.func137 (fun a r h=>XD a.1 a.2 r h)
def xg:((List ac)×Condition)→List V:=cA (rV 1 str) (oA bF)
def xh (r:(List ac)):V×List V:=(.usl 1 (r.map str),[.dead])
noncomputable def xi (cz:((List ac)×Condition)→Option (List ac)):Ent:=bi [true,false] xg xh cz
theorem Pc (cz:((List ac)×Condition)→Option (List ac)){x}{r}(h:cz x=some r):(xi cz).F (xg x)=some (xh r):=aH (aJ (jc bT) (aI dC)) h
noncomputable def Ct :=xi (aL lF)
theorem Uk {l_4:List ac}{c_5:Condition}{r}(h:LX l_4 c_5=some r):Ct.F (xg (l_4,c_5))=some (xh r):=Pc (aL lF) h
noncomputable def Um :=aF Tryz.f136
noncomputable def LY (cz:((List ac)×Condition)→Option (List ac)):Env:=cb [(137,vn),(136,(xi cz))]
def Ul (cz:((List ac)×Condition)→Option (List ac))(x:(List ac)×Condition)(r:(List ac)):St→Prop:=QF (LY cz) Tryz.f136 [true,false] (xg x) (xh r)
theorem Oq (cz:((List ac)×Condition)→Option (List ac))(l_4:List ac)(c_5:Condition):ch (LY cz) 1 (Ul cz (l_4,c_5)) (cL (cL (cR (cL (cR (cR Um)))))) 0 (mf cz l_4 c_5) (fun u=>(sO 28 [(0,.hs 2 0 [] 1 0 (u.map str).length)] [none,some ⟨0,1,u.map str⟩] 3)) fun x4=>(sO 28 [(0,.hs 2 0 [] 1 0 (x4.2.map str).length),(3,.hp 3 0 [] 4 0 0),(5,I x4.1)] [none,some ⟨0,1,x4.2.map str⟩,some ⟨0,4,[ao c_5]⟩] 4):=eg (zU cz l_4 c_5) fun {Q K} hK self ih x4 y h hr hn=>by
 unfold kf at h
 refine cq 6 [13,15] [I x4.1,.isl false (c_5.Parts.map aE)] 52 ?_
 refine oq 68 (I (len c_5.Parts)) rfl (bu rfl rfl rfl (bG rfl)) ?_
 refine cq 2 [17] [B (decide (x4.1<(len c_5.Parts)))] 84 ?_
 refine sq h ?_ ?_<;>intro h
 ·refine aq 1 ?_
  refine cq 7 [20,22,23] [.hs 2 0 [] 1 0 (x4.2.map str).length,.isl false (c_5.Parts.map aE),I x4.1] 148 ?_
  obtain⟨e5,he5,h⟩:=bS h
  refine oq 164 (.iptr (ao e5) 0) rfl (ak rfl rfl rfl (ba rfl rfl (dA e5) rfl he5)) ?_
  refine cq 1 [25] [ao e5] 180 ?_
  obtain⟨r6,hr6,h⟩:=bS h
  refine oq 196 (.hs 180 0 [] 1 0 (r6.map str).length) rfl (b8 rfl rfl (cu rfl rfl rfl (li (ki rfl (gb (path:=[]) rfl rfl aX rfl)) (bd (bM rfl) dx)) (Pc cz hr6) (.inr rfl) (ju rfl rfl rfl nW ec) rfl rfl rfl)) ?_
  refine cq 8 [0,5] [.hs 180 0 [] 1 0 (r6.map str).length,I (ai (x4.1+1))] 260 ?_
  refine cZ ?_
  exact rg [0,3,5] [261,180,3] (ih _ _ h hr hn :)
 ·refine aq 1 ?_
  exact rg [0] [85,2] (hn _ (aj h) :) (hk:=hK)
theorem XC (cz:((List ac)×Condition)→Option (List ac))(l_4:List ac)(c_5:Condition)(r:(List ac))(h:tX cz l_4 c_5=some r):br (LY cz) Tryz.f136 [true,false] 1 (xg (l_4,c_5)) (xh r):=by
 show Run _ _ (Ul cz (l_4,c_5) r) [.code Um] _
 refine rI 28 [(0,.hs 1 0 [] 1 0 (l_4.map str).length),(1,ao c_5)] [(1,some ⟨0,1,l_4.map str⟩)] 2 ?_
 unfold tX at h
 refine ck 12 [3,8] [] [2] [] [.hp 2 0 [] 4 0 0,B (c_5.Op==2)] [some ⟨0,4,[ao c_5]⟩] 82 (by kernel_rfl) ?_
 refine sq h ?_ ?_<;>intro h
 ·refine cq 5 [9,11] [.hs 1 0 [] 1 0 (l_4.map str).length,str c_5.Name] 130 ?_
  obtain⟨r3,hr3,h⟩:=bS h
  refine oq 146 (.hs 130 0 [] 1 0 (r3.map str).length) rfl (b8 rfl rfl (cu rfl rfl rfl (li (ki rfl (gb (path:=[]) rfl rfl aX rfl)) (bd (bM rfl) dx)) (LZ hr3) (.inr rfl) (ju rfl rfl rfl nW ec) rfl rfl rfl)) ?_
  refine cq 2 [4] [.hs 130 0 [] 1 0 (r3.map str).length] 162 ?_
  obtain rfl:=sI h
  exact cr rfl ⟨_,fin (vs:=[.hs 130 0 [] 1 0 (r3.map str).length]) rfl (gC (gk rfl (dZ rfl rfl)) eI) rfl (lY rfl (qM rfl) (dw fD)),vP fz⟩
 ·refine aq 1 ?_
  refine cq 6 [5] [I (0)] 98 ?_
  obtain⟨y7,hy7,hy71,hy72⟩:=bJ h
  refine bN rfl ?_
  refine rg [0,3,5] [99,1,2] (Oq cz l_4 c_5 rfl (0,l_4) _ hy7 (fun r' e st hq=>by rw[hy71 r' e] at hq;exact hq) fun u7 hu=>?_)
  replace h:=hy72 u7 hu
  refine cq 5 [4] [.hs 2 0 [] 1 0 (u7.map str).length] 35 ?_
  obtain rfl:=sI h
  exact cr rfl ⟨_,fin (vs:=[.hs 2 0 [] 1 0 (u7.map str).length]) rfl (gC (gk rfl (dZ rfl rfl)) eI) rfl (lY rfl (qM rfl) (dw fD)),vP fz⟩
theorem Uo {G:bZ}:bV G 136 Ct:=kx fun cz g_Ffdx=>gT 2 1 (aO I6 (aO g_Ffdx bz)) cd Tryz.func136 (fun a r h=>XC cz a.1 a.2 r h)
def F6:Contract→List V:=oA aM
def F7 (r:(List ac)):V×List V:=(.usl 1 (r.map str),[])
noncomputable def vq :=bi [false] F6 F7 fun x=>pj x
theorem UC {c_1:Contract}{r}(h:pj c_1=some r):vq.F (F6 c_1)=some (F7 r):=aH (aI aU) h
noncomputable def UE :=aF Tryz.f93
noncomputable def L8 :=cb [(137,vn),(136,Ct)]
def UD (x:Contract)(r:(List ac)):St→Prop:=QF L8 Tryz.f93 [false] (F6 x) (F7 r)
theorem Oy (c_1:Contract):ch L8 0 (UD c_1) (cL (cL (cR (cL (cR (cR UE)))))) 0 (nQ c_1) (fun u=>(sT 29 [(3,.hs 1 0 [] 1 0 (u.map str).length)] [⟨0,1,u.map str⟩] 2)) fun x2=>(sT 29 [(1,.hp 1 0 [] 2 0 0),(3,.hs 2 0 [] 1 0 (x2.2.map str).length),(4,I x2.1)] [⟨0,2,[aa c_1]⟩,⟨0,1,x2.2.map str⟩] 3):=eg (Aa c_1) fun {Q K} hK self ih x2 y h hr hn=>by
 unfold lK at h
 refine cq 6 [6,8] [I x2.1,.isl false (c_1.Clauses.map ap)] 51 ?_
 refine oq 67 (I (len c_1.Clauses)) rfl (bu rfl rfl rfl (bG rfl)) ?_
 refine cq 2 [10] [B (decide (x2.1<(len c_1.Clauses)))] 83 ?_
 refine sq h ?_ ?_<;>intro h
 ·refine aq 1 ?_
  refine aq 2 ?_
  refine dK [0,0,2,0,14,30,62,127,0,256,0,1792,3840,7936,16383,32767] rfl (by decide +kernel) ?_
  refine dk 1 [13] [.hs 2 0 [] 1 0 (x2.2.map str).length] ?_
  refine dq [1] [] (.hp 1 0 [] 2 0 1) rfl (al rfl rfl rfl) ?_
  refine dq [1] [] (.isl false (c_1.Clauses.map ap)) rfl (aN rfl rfl) ?_
  refine dk 1 [16] [I x2.1] ?_
  obtain⟨e3,he3,h⟩:=bS h
  refine dq [] [] (.iptr (au e3) 0) rfl (ak rfl rfl rfl (ba rfl rfl rfl rfl he3)) ?_
  refine dq [] [] (.iptr (au e3) 3) rfl (al rfl rfl rfl) ?_
  refine dq [] [] (str e3.Action) rfl (aN rfl rfl) ?_
  obtain⟨r4,hr4,h⟩:=bS h
  refine dq [2] [2] (.hs 195 0 [] 1 0 (r4.map str).length) rfl (b8 rfl rfl (cu rfl rfl rfl (li (ki rfl (gb (path:=[]) rfl rfl aX rfl)) (bd (bM rfl) dx)) (LZ hr4) (.inr rfl) (ju rfl rfl rfl nW ec) rfl rfl rfl)) ?_ (dF rfl rfl rfl rfl (li (ki rfl (gb (path:=[]) rfl rfl aX rfl)) (bd (bM rfl) dx)) (LZ hr4) (.inr rfl) rfl)
  refine dq [1] [] (.hp 1 0 [] 2 0 1) rfl (al rfl rfl rfl) ?_
  refine dq [1] [] (.isl false (c_1.Clauses.map ap)) rfl (aN rfl rfl) ?_
  refine dk 1 [23] [I x2.1] ?_
  obtain⟨e5,he5,h⟩:=bS h
  refine dq [] [] (.iptr (au e5) 0) rfl (ak rfl rfl rfl (ba rfl rfl rfl rfl he5)) ?_
  refine dq [] [] (.iptr (au e5) 6) rfl (al rfl rfl rfl) ?_
  refine dq [] [] (ao e5.When) rfl (aN rfl rfl) ?_
  obtain⟨r6,hr6,h⟩:=bS h
  refine dq [195] [195] (.hs 307 0 [] 1 0 (r6.map str).length) rfl (b8 rfl rfl (cu rfl rfl rfl (li (ki rfl (gb (path:=[]) rfl rfl aX rfl)) (bd (bM rfl) dx)) (Uk hr6) (.inr rfl) (ju rfl rfl rfl nW ec) rfl rfl rfl)) ?_ (dF rfl rfl rfl rfl (li (ki rfl (gb (path:=[]) rfl rfl aX rfl)) (bd (bM rfl) dx)) (Uk hr6) (.inr rfl) rfl)
  refine dk 1 [3] [.hs 307 0 [] 1 0 (r6.map str).length] ?_
  refine de 339 rfl rfl ?_
  refine cq 6 [4] [I (ai (x2.1+1))] 387 ?_
  refine cZ ?_
  exact rf [1,3,4] [1,307] (ih _ _ h hr hn :)
 ·refine aq 1 ?_
  exact rf [3] [2] (hn _ (aj h) :) (hk:=hK)
theorem XM (c_1:Contract)(r:(List ac))(h:pj c_1=some r):br L8 Tryz.f93 [false] 0 (F6 c_1) (F7 r):=by
 show Run _ _ (UD c_1 r) [.code UE] _
 refine rI 29 [(0,aa c_1)] [] 1 ?_
 unfold pj at h
 refine ck 7 [1] [] [1] [] [.hp 1 0 [] 2 0 0] [some ⟨0,2,[aa c_1]⟩] 33 (by kernel_rfl) ?_
 refine oq 49 (.hs 33 0 [] 1 0 0) rfl (eW rfl (mo (f:=I) (xs:=[]) (z:=str ([])) (es:=[]) (ws:=[]) rfl rfl rfl (by decide) rfl (d9 rfl) rfl)) ?_
 refine cq 8 [3,4] [.hs 33 0 [] 1 0 0,I (0)] 81 ?_
 obtain⟨y7,hy7,hy71,hy72⟩:=bJ h
 refine bN rfl ?_
 refine rf [1,3,4] [1,33] (Oy c_1 rfl (0,[]) _ hy7 (fun r' e st hq=>by rw[hy71 r' e] at hq;exact hq) fun u7 hu=>?_)
 replace h:=hy72 u7 hu
 refine cq 5 [2] [.hs 1 0 [] 1 0 (u7.map str).length] 34 ?_
 obtain rfl:=sI h
 exact cr rfl ⟨_,fin (vs:=[.hs 1 0 [] 1 0 (u7.map str).length]) rfl (gC (gk rfl (dZ rfl rfl)) eI) rfl (dw fD),fz⟩
theorem I8 {G:bZ}:bV G 93 vq:=gT 1 0 (aO I6 (aO Uo bz)) cd Tryz.func93 (fun a r h=>XM a r h)
def F2:Contract→List V:=oA aM
def F3 (r:Bool):V×List V:=(B r,[])
noncomputable def CC :=bi [false] F2 F3 fun x=>CB x
theorem adg {c_1:Contract}{r}(h:CB c_1=some r):CC.F (F2 c_1)=some (F3 r):=aH (aI aU) h
noncomputable def F4 :=aF Tryz.f43
noncomputable abbrev yD :=cL (cL (cR (cL (cR (cR F4)))))
noncomputable def xr :=cb [(89,fF),(91,vp),(92,Cy),(93,vq),(90,CD)]
def uh (x:Contract)(r:Bool):St→Prop:=QF xr Tryz.f43 [false] (F2 x) (F3 r)
theorem Ox (c_1:Contract):ch xr 0 (uh c_1) yD 0 (mh c_1) (fun u=>(sT 41 [(1,.hp 1 0 [] 2 0 0)] [⟨0,2,[aa c_1]⟩] 2)) fun x4=>(sT 41 [(1,.hp 1 0 [] 2 0 0),(3,I x4)] [⟨0,2,[aa c_1]⟩] 2):=eg (zZ c_1) fun {Q K} hK self ih x4 y h hr hn=>by
 unfold lI at h
 refine cq 6 [14,16] [I x4,.isl false (c_1.Clauses.map ap)] 50 ?_
 refine oq 66 (I (len c_1.Clauses)) rfl (bu rfl rfl rfl (bG rfl)) ?_
 refine cq 2 [18] [B (decide (x4<(len c_1.Clauses)))] 82 ?_
 refine sq h ?_ ?_<;>intro h
 ·refine aq 1 ?_
  refine aq 3 ?_
  refine dK [0,0,2,0,14,30,62,127,0,511,1023,2047,2047,8191,16383,32767] rfl (by decide +kernel) ?_
  refine dq [1] [] (aa c_1) rfl (aN rfl rfl) ?_
  refine dq [1] [] (.hp 1 0 [] 2 0 1) rfl (al rfl rfl rfl) ?_
  refine dq [1] [] (.isl false (c_1.Clauses.map ap)) rfl (aN rfl rfl) ?_
  refine dk 1 [24] [I x4] ?_
  obtain⟨e5,he5,h⟩:=bS h
  refine dq [] [] (.iptr (au e5) 0) rfl (ak rfl rfl rfl (ba rfl rfl rfl rfl he5)) ?_
  refine dq [] [] (.iptr (au e5) 0) rfl (al rfl rfl rfl) ?_
  refine dq [] [] (str e5.Id) rfl (aN rfl rfl) ?_
  obtain⟨r6,hr6,h⟩:=bS h
  refine dq [] [] (I r6) rfl (cP (L7 hr6)) ?_ (dF rfl rfl rfl rfl (bd (bM rfl) (bd (bM rfl) dx)) (L7 hr6) (.inr rfl) rfl)
  refine dk 3 [31,30,29] [B (r6 != x4),B (r6 != x4),I x4] ?_
  obtain⟨y7,hy7,hy71,hy72⟩:=bL h
  have j7:∀u7,y7=.inr u7→Run xr 0 Q (.code (cR (cL (cL (cR yD))))::.blk 1::.code (cR (cR yD))::.lp yD::.blk 0::K) (sT 41 [(1,.hp 1 0 [] 2 0 0),(3,I x4),(36,B u7)] [⟨0,2,[aa c_1]⟩] 2):=by
   intro u7 hu
   replace h:=hy72 u7 hu
   refine sq h ?_ ?_<;>intro h
   ·refine cq 4 [2] [B false] 18 ?_
    exact cr rfl (hr _ (aj h) _ (qp [B false]))
   ·refine aq 1 ?_
    refine cq 6 [3] [I (ai (x4+1))] 50 ?_
    refine cZ ?_
    exact rf [1,3] [1] (ih _ _ h hr hn :)
  have r7:∀r',y7=.inl r'→∀st,uh c_1 r' st→Q st:=fun r' e st hq=>hr r' (hy71 r' e) st hq
  replace h:=hy7
  refine sp 31 h rfl ?_ ?_<;>intro h
  ·refine dk 5 [36,35,34,33,32] [B true,.und,.und,.und,.und] ?_
   refine de 338 rfl rfl ?_
   exact rf [1,3,36] [1] (j7 _ (aj h) :)
  ·refine dy [1] [] (aa c_1) rfl (aN rfl rfl) ?_
   refine dk 1 [33] [I x4] ?_
   obtain⟨r8,hr8,h⟩:=bS h
   refine dy [] [] (B r8) rfl (cP (Uu hr8)) ?_ (dF rfl rfl rfl rfl (bd (bM rfl) (bd (bM rfl) dx)) (Uu hr8) (.inr rfl) rfl)
   refine dk 2 [36,35] [B (!r8),B (!r8)] ?_
   refine de 338 rfl rfl ?_
   exact rf [1,3,36] [1] (j7 _ (aj h) :)
 ·refine aq 1 ?_
  exact rf [1] [1] (hn _ (aj h) :) (hk:=hK)
theorem XL (c_1:Contract)(r:Bool)(h:CB c_1=some r):br xr Tryz.f43 [false] 0 (F2 c_1) (F3 r):=by
 show Run _ _ (uh c_1 r) [.code F4] _
 refine rI 41 [(0,aa c_1)] [] 1 ?_
 unfold CB at h
 refine ck 10 [1,5] [] [1] [] [.hp 1 0 [] 2 0 0,.isl false (c_1.Clauses.map ap)] [some ⟨0,2,[aa c_1]⟩] 65 (by kernel_rfl) ?_
 refine oq 81 (I (len c_1.Clauses)) rfl (bu rfl rfl rfl (bG rfl)) ?_
 obtain⟨r2,hr2,h⟩:=bS h
 refine oq 97 (B r2) rfl (cP (et hr2)) ?_
 refine cq 2 [9] [B (!r2)] 129 ?_
 obtain⟨y3,hy3,hy31,hy32⟩:=bJ h
 have j3:∀u3,y3=.inr u3→Run xr 0 (uh c_1 r) (.code (cR (cL (cR F4)))::.code (cR (cR F4))::[]) (sT 41 [(1,.hp 1 0 [] 2 0 0),(13,B u3)] [⟨0,2,[aa c_1]⟩] 2):=by
  intro u3 hu
  replace h:=hy32 u3 hu
  refine sq h ?_ ?_<;>intro h
  ·refine cq 4 [2] [B false] 18 ?_
   obtain rfl:=sI h
   exact rP [B false]
  ·refine aq 1 ?_
   refine cq 6 [3] [I (0)] 18 ?_
   obtain⟨y9,hy9,hy91,hy92⟩:=bJ h
   refine bN rfl ?_
   refine rf [1,3] [1] (Ox c_1 rfl 0 _ hy9 (fun r' e st hq=>by rw[hy91 r' e] at hq;exact hq) fun u9 hu=>?_)
   replace h:=hy92 u9 hu
   refine cq 3 [37] [aa c_1] 18 ?_
   obtain⟨r10,hr10,h⟩:=bS h
   refine oq 34 (.hs 18 0 [] 1 0 (r10.map str).length) rfl (cP (UC hr10)) ?_
   refine oq 50 (I (len r10)) rfl (bu rfl rfl rfl (vQ (f:=str) (xs:=r10) rfl rfl)) ?_
   refine cq 3 [2] [B (decide ((len r10)≤16))] 82 ?_
   obtain rfl:=sI h
   exact rP [B (decide ((len r10)≤16))]
 have r3:∀r',y3=.inl r'→∀st,uh c_1 r' st→(uh c_1 r) st:=fun r' e st hq=>by rw[hy31 r' e] at hq;exact hq
 replace h:=hy3
 refine sp 9 h rfl ?_ ?_<;>intro h
 ·refine cq 5 [13] [B true] 193 ?_
  exact rf [1,13] [1] (j3 _ (aj h) :)
 ·refine cq 1 [10] [aa c_1] 145 ?_
  obtain⟨r11,hr11,h⟩:=bS h
  refine oy 161 (B r11) rfl (cP (adh hr11)) ?_
  refine cq 3 [13] [B (!r11)] 193 ?_
  exact rf [1,13] [1] (j3 _ (aj h) :)
theorem UB {G:bZ}:bV G 43 CC:=gT 1 0 (aO f9 (aO I7 (aO Uv (aO I8 (aO UF bz))))) cd Tryz.func43 (fun a r h=>XL a r h)
def FD:(List ac)→List V:=oA (fG str)
def FF (r:Bool):V×List V:=(B r,[])
noncomputable def Cm :=bi [false] FD FF fun x=>Cl x
theorem ac8 {ay:List ac}{r}(h:Cl ay=some r):Cm.F (FD ay)=some (FF r):=aH (aI (bW bT)) h
noncomputable def Ua :=aF Tryz.f122
noncomputable abbrev kV :=cL (cL (cR (cL (cR Ua))))
noncomputable def tT :=cb [(80,pi)]
def FE (x:(List ac))(r:Bool):St→Prop:=QF tT Tryz.f122 [false] (FD x) (FF r)
theorem Ok (ay:List ac):ch tT 0 (FE ay) kV 0 (ja ay) (fun u=>(sT 39 [(0,.isl false (ay.map str))] [] 1)) fun x2=>(sT 39 [(0,.isl false (ay.map str)),(3,I x2)] [] 1):=eg (zQ ay) fun {Q K} hK self ih x2 y h hr hn=>by
 unfold ke at h
 refine cq 5 [4,5] [I x2,.isl false (ay.map str)] 33 ?_
 refine oq 49 (I (len ay)) rfl (bu rfl rfl rfl (bG rfl)) ?_
 refine cq 2 [8] [B (decide (x2<(len ay)))] 81 ?_
 obtain⟨u3,hu3,h⟩:=lJ h
 have j3:Run tT 0 Q (.code (cR (cL kV))::.code (cR kV)::.lp kV::.blk 0::K) (sT 39 [(0,.isl false (ay.map str)),(3,I x2),(11,B u3)] [] 1):=by
  refine sq h ?_ ?_<;>intro h
  ·refine aq 1 ?_
   refine aq 3 ?_
   refine dK [0,0,3,7,15,31,63,127,255,511,1023,1023,3071,8191,16383,1023,1023,99327,230399,524287,1048575,2097151] rfl (by decide +kernel) ?_
   refine dk 2 [15,14] [I x2,.isl false (ay.map str)] ?_
   obtain⟨e4,he4,h⟩:=bS h
   refine dq [] [] (.iptr (str e4) 0) rfl (ak rfl rfl rfl (ba rfl rfl rfl rfl he4)) ?_
   refine dq [] [] (str e4) rfl (aN rfl rfl) ?_
   obtain⟨r5,hr5,h⟩:=bS h
   refine dq [] [] (B r5) rfl (cP (rp hr5)) ?_ (dF rfl rfl rfl rfl (bd (bM rfl) dx) (rp hr5) (.inr rfl) rfl)
   refine dk 2 [20,19] [B (!r5),B (!r5)] ?_
   obtain⟨y6,hy6,hy61,hy62⟩:=bL h
   have j6:∀u6,y6=.inr u6→Run tT 0 Q (.code (cR (cL (cL (cR kV))))::.blk 1::.code (cR (cR kV))::.lp kV::.blk 0::K) (sT 39 [(0,.isl false (ay.map str)),(3,I x2),(35,B u6)] [] 1):=by
    intro u6 hu
    replace h:=hy62 u6 hu
    refine sq h ?_ ?_<;>intro h
    ·refine cq 4 [2] [B false] 17 ?_
     exact cr rfl (hr _ (aj h) _ (qp [B false]))
    ·refine aq 1 ?_
     refine cq 6 [3] [I (ai (x2+1))] 49 ?_
     refine cZ ?_
     exact rf [0,3] [] (ih _ _ h hr hn :)
   have r6:∀r',y6=.inl r'→∀st,FE ay r' st→Q st:=fun r' e st hq=>hr r' (hy61 r' e) st hq
   replace h:=hy6
   refine sp 20 h rfl ?_ ?_<;>intro h
   ·refine dk 15 [35,34,33,32,31,30,29,28,27,26,25,24,23,22,21] [B true,.und,.und,.und,.und,.und,.und,.und,.und,.und,.und,.und,.und,.und,.und] ?_
    refine de 353 rfl rfl ?_
    exact rf [0,3,35] [] (j6 _ (aj h) :)
   ·refine dk 3 [23,22,21] [B (decide (x2>0)),B (decide (x2>0)),I x2] ?_
    obtain⟨y7,hy7,hy71,hy72⟩:=bL h
    have j7:∀u7,y7=.inr u7→Run tT 0 Q (.code (cR (cL (cL (cR kV))))::.blk 1::.code (cR (cR kV))::.lp kV::.blk 0::K) (sT 39 [(0,.isl false (ay.map str)),(3,I x2),(35,B u7)] [] 1):=by
     intro u7 hu
     replace h:=hy72 u7 hu
     exact rf [0,3,35] [] (j6 _ (aj h) :)
    have r7:∀r',y7=.inl r'→∀st,FE ay r' st→Q st:=fun r' e st hq=>r6 r' (hy71 r' e) st hq
    replace h:=hy7
    refine sp 23 h rfl ?_ ?_<;>intro h
    ·refine dk 3 [26,25,24] [I (ai (x2 - 1)),I x2,.isl false (ay.map str)] ?_
     obtain⟨e8,he8,h⟩:=bS h
     refine dy [] [] (.iptr (str e8) 0) rfl (ak rfl rfl rfl (ba rfl rfl rfl rfl he8)) ?_
     refine dy [] [] (str e8) rfl (aN rfl rfl) ?_
     refine dk 2 [30,29] [I x2,.isl false (ay.map str)] ?_
     obtain⟨e9,he9,h⟩:=bS h
     refine dy [] [] (.iptr (str e9) 0) rfl (ak rfl rfl rfl (ba rfl rfl rfl rfl he9)) ?_
     refine dy [] [] (str e9) rfl (aN rfl rfl) ?_
     refine dk 3 [35,34,33] [B (!(Op.bytesLess e8 e9)),B (!(Op.bytesLess e8 e9)),B (!(Op.bytesLess e8 e9))] ?_
     refine de 353 rfl rfl ?_
     exact rf [0,3,35] [] (j7 _ (aj h) :)
    ·refine dk 12 [35,34,33,32,31,30,29,28,27,26,25,24] [B false,B false,.und,.und,.und,.und,.und,.und,.und,.und,.und,.und] ?_
     refine de 353 rfl rfl ?_
     exact rf [0,3,35] [] (j7 _ (aj h) :)
  ·refine aq 1 ?_
   exact rf [0] [] (hn _ (aj h) :) (hk:=hK)
 replace h:=hu3
 clear hu3
 refine sp 8 h rfl ?_ ?_<;>intro h
 ·refine cq 4 [11] [B (decide (x2≤16))] 129 ?_
  subst h
  exact rf [0,3,11] [] (j3 :)
 ·refine cq 4 [11] [B false] 129 ?_
  subst h
  exact rf [0,3,11] [] (j3 :)
theorem Xu (ay:List ac)(r:Bool)(h:Cl ay=some r):br tT Tryz.f122 [false] 0 (FD ay) (FF r):=by
 show Run _ _ (FE ay r) [.code Ua] _
 refine rI 39 [(0,.isl false (ay.map str))] [] 1 ?_
 unfold Cl at h
 refine cq 10 [3] [I (0)] 33 ?_
 obtain⟨y10,hy10,hy101,hy102⟩:=bJ h
 refine bN rfl ?_
 refine rf [0,3] [] (Ok ay rfl 0 _ hy10 (fun r' e st hq=>by rw[hy101 r' e] at hq;exact hq) fun u10 hu=>?_)
 replace h:=hy102 u10 hu
 refine cq 3 [36] [.isl false (ay.map str)] 17 ?_
 refine oq 33 (I (len ay)) rfl (bu rfl rfl rfl (bG rfl)) ?_
 refine cq 3 [2] [B (decide ((len ay)≤16))] 65 ?_
 obtain rfl:=sI h
 exact rP [B (decide ((len ay)≤16))]
theorem Ub {G:bZ}:bV G 122 Cm:=gT 1 0 (aO se bz) cd Tryz.func122 (fun a r h=>Xu a r h)
def FY:(Contract×Int)→List V:=cA aM (oA I)
def FZ (r:Bool):V×List V:=(B r,[])
noncomputable def CA :=bi [false,false] FY FZ fun x=>Cz x.1 x.2
theorem adf {c_1:Contract}{i_2:Int}{r}(h:Cz c_1 i_2=some r):CA.F (FY (c_1,i_2))=some (FZ r):=aH (aJ aU (aI bo)) h
noncomputable def Ux :=aF Tryz.f156
noncomputable def L5 :=cb []
def Uw (x:Contract×Int)(r:Bool):St→Prop:=QF L5 Tryz.f156 [false,false] (FY x) (FZ r)
theorem Ov (c_1:Contract)(i_2:Int):ch L5 0 (Uw (c_1,i_2)) (cL (cL (cR (cL (cR Ux))))) 0 (ue c_1 i_2) (fun u=>(sT 26 [] [] 1)) fun x3=>(sT 26 [(1,I i_2),(2,.hp 1 0 [] 2 0 0),(5,I x3)] [⟨0,2,[aa c_1]⟩] 2):=eg (zX c_1 i_2) fun {Q K} hK self ih x3 y h hr hn=>by
 unfold nO at h
 refine cq 6 [6,8] [I x3,.isl false (c_1.Clauses.map ap)] 50 ?_
 refine oq 66 (I (len c_1.Clauses)) rfl (bu rfl rfl rfl (bG rfl)) ?_
 refine cq 2 [10] [B (decide (x3<(len c_1.Clauses)))] 82 ?_
 refine sq h ?_ ?_<;>intro h
 ·refine aq 1 ?_
  refine aq 3 ?_
  refine dK [0,1,0,7,15,31,0,64,0,448,960,1984,4095] rfl (by decide +kernel) ?_
  refine dq [1] [] (.hp 1 0 [] 2 0 1) rfl (al rfl rfl rfl) ?_
  refine dq [1] [] (.isl false (c_1.Clauses.map ap)) rfl (aN rfl rfl) ?_
  refine dk 1 [15] [I x3] ?_
  obtain⟨e4,he4,h⟩:=bS h
  refine dq [] [] (.iptr (au e4) 0) rfl (ak rfl rfl rfl (ba rfl rfl rfl rfl he4)) ?_
  refine dq [] [] (.iptr (au e4) 11) rfl (al rfl rfl rfl) ?_
  refine dq [] [] (str e4.Repair) rfl (aN rfl rfl) ?_
  refine dq [1] [] (.hp 1 0 [] 2 0 1) rfl (al rfl rfl rfl) ?_
  refine dq [1] [] (.isl false (c_1.Clauses.map ap)) rfl (aN rfl rfl) ?_
  refine dk 1 [21] [I i_2] ?_
  obtain⟨e5,he5,h⟩:=bS h
  refine dq [] [] (.iptr (au e5) 0) rfl (ak rfl rfl rfl (ba rfl rfl rfl rfl he5)) ?_
  refine dq [] [] (.iptr (au e5) 0) rfl (al rfl rfl rfl) ?_
  refine dq [] [] (str e5.Id) rfl (aN rfl rfl) ?_
  refine dk 1 [25] [B (e4.Repair==e5.Id)] ?_
  refine de 290 rfl rfl ?_
  refine sq h ?_ ?_<;>intro h
  ·refine cq 4 [4] [B true] 306 ?_
   exact cr rfl (hr _ (aj h) _ (qp [B true]))
  ·refine aq 1 ?_
   refine cq 6 [5] [I (ai (x3+1))] 338 ?_
   refine cZ ?_
   exact rf [1,2,5] [1] (ih _ _ h hr hn :)
 ·refine aq 1 ?_
  exact rf [] [] (hn _ (aj h) :) (hk:=hK)
theorem XJ (c_1:Contract)(i_2:Int)(r:Bool)(h:Cz c_1 i_2=some r):br L5 Tryz.f156 [false,false] 0 (FY (c_1,i_2)) (FZ r):=by
 show Run _ _ (Uw (c_1,i_2) r) [.code Ux] _
 refine rI 26 [(0,aa c_1),(1,I i_2)] [] 1 ?_
 unfold Cz at h
 refine ck 11 [2,5] [] [1] [] [.hp 1 0 [] 2 0 0,I (0)] [some ⟨0,2,[aa c_1]⟩] 49 (by kernel_rfl) ?_
 obtain⟨y6,hy6,hy61,hy62⟩:=bJ h
 refine bN rfl ?_
 refine rf [1,2,5] [1] (Ov c_1 i_2 rfl 0 _ hy6 (fun r' e st hq=>by rw[hy61 r' e] at hq;exact hq) fun u6 hu=>?_)
 replace h:=hy62 u6 hu
 refine cq 4 [4] [B false] 17 ?_
 obtain rfl:=sI h
 exact rP [B false]
theorem Uy {G:bZ}:bV G 156 CA:=gT 2 0 bz cd Tryz.func156 (fun a r h=>XJ a.1 a.2 r h)
def Gd:(State×Int)→List V:=cA bH (oA I)
def Gf (r:Int):V×List V:=(I r,[])
noncomputable def CF :=bi [false,false] Gd Gf fun x=>CE x.1 x.2
theorem adi {s_1:State}{i_2:Int}{r}(h:CE s_1 i_2=some r):CF.F (Gd (s_1,i_2))=some (Gf r):=aH (aJ bP (aI bo)) h
noncomputable def UH :=aF Tryz.f157
noncomputable abbrev Ic :=cL (cL (cR (cL (cR (cR UH)))))
noncomputable def Ge :=cb []
def UG (x:State×Int)(r:Int):St→Prop:=QF Ge Tryz.f157 [false,false] (Gd x) (Gf r)
theorem OA (s_1:State)(i_2:Int):ch Ge 0 (UG (s_1,i_2)) Ic 0 (mi s_1 i_2) (fun u=>(sT 25 [(5,I u)] [] 1)) fun x3=>(sT 25 [(1,I i_2),(2,.hp 1 0 [] 5 0 0),(5,I x3.1),(6,I x3.2)] [⟨0,5,[ae s_1]⟩] 2):=eg (Ac s_1 i_2) fun {Q K} hK self ih x3 y h hr hn=>by
 unfold lM at h
 refine cq 6 [7,9] [I x3.2,.isl false (s_1.Duties.map ah)] 50 ?_
 refine oq 66 (I (len s_1.Duties)) rfl (bu rfl rfl rfl (bG rfl)) ?_
 refine cq 2 [11] [B (decide (x3.2<(len s_1.Duties)))] 82 ?_
 refine sq h ?_ ?_<;>intro h
 ·refine aq 1 ?_
  refine cq 7 [15,16] [.isl false (s_1.Duties.map ah),I x3.2] 130 ?_
  obtain⟨e4,he4,h⟩:=bS h
  refine oq 146 (.iptr (ah e4) 0) rfl (ak rfl rfl rfl (ba rfl rfl rfl rfl he4)) ?_
  refine cq 5 [21] [B (e4.Clause==i_2)] 210 ?_
  obtain⟨u5,hu5,h⟩:=lJ h
  have j5:Run Ge 0 Q (.blk 1::.code (cR (cR Ic))::.lp Ic::.blk 0::K) (sT 25 [(1,I i_2),(2,.hp 1 0 [] 5 0 0),(5,I u5),(6,I x3.2)] [⟨0,5,[ae s_1]⟩] 2):=by
   refine cq 6 [6] [I (ai (x3.2+1))] 50 ?_
   refine cZ ?_
   exact rf [1,2,5,6] [1] (ih _ _ h hr hn :)
  replace h:=hu5
  clear hu5
  refine sJ h rfl rfl ?_ ?_<;>intro h
  ·refine cq 5 [5] [I (ai (x3.1+1))] 258 ?_
   subst h
   exact rf [1,2,5,6] [1] (j5 :)
  ·refine aq 1 ?_
   subst h
   exact rf [1,2,5,6] [1] (j5 :)
 ·refine aq 1 ?_
  exact rf [5] [] (hn _ (aj h) :) (hk:=hK)
theorem XO (s_1:State)(i_2:Int)(r:Int)(h:CE s_1 i_2=some r):br Ge Tryz.f157 [false,false] 0 (Gd (s_1,i_2)) (Gf r):=by
 show Run _ _ (UG (s_1,i_2) r) [.code UH] _
 refine rI 25 [(0,ae s_1),(1,I i_2)] [] 1 ?_
 unfold CE at h
 refine ck 15 [2,5,6] [] [1] [] [.hp 1 0 [] 5 0 0,I (0),I (0)] [some ⟨0,5,[ae s_1]⟩] 65 (by kernel_rfl) ?_
 obtain⟨y6,hy6,hy61,hy62⟩:=bJ h
 refine bN rfl ?_
 refine rf [1,2,5,6] [1] (OA s_1 i_2 rfl (0,0) _ hy6 (fun r' e st hq=>by rw[hy61 r' e] at hq;exact hq) fun u6 hu=>?_)
 replace h:=hy62 u6 hu
 refine cq 5 [4] [I u6] 33 ?_
 obtain rfl:=sI h
 exact rP [I u6]
theorem UI {G:bZ}:bV G 157 CF:=gT 2 0 bz cd Tryz.func157 (fun a r h=>XO a.1 a.2 r h)
def Gh:(Contract×State×Int)→List V:=cA aM (cA bH (oA I))
def Gi (r:Bool):V×List V:=(B r,[])
noncomputable def CH :=bi [false,false,false] Gh Gi fun x=>CG x.1 x.2.1 x.2.2
theorem adj {c_1:Contract}{s_2:State}{k_3:Int}{r}(h:CG c_1 s_2 k_3=some r):CH.F (Gh (c_1,s_2,k_3))=some (Gi r):=aH (aJ aU (aJ bP (aI bo))) h
noncomputable def Ma :=aF Tryz.f124
noncomputable abbrev pk :=cR (cR (cR Ma))
noncomputable abbrev uj :=cR (cL (cR (cR Ma)))
noncomputable abbrev eH :=cR pk
noncomputable abbrev eL :=cR (cL pk)
noncomputable def ep :=cb [(89,fF),(156,CA),(157,CF),(76,rm)]
def cW (x:Contract×State×Int)(r:Bool):St→Prop:=QF ep Tryz.f124 [false,false,false] (Gh x) (Gi r)
theorem XP (c_1:Contract)(s_2:State)(k_3:Int)(r:Bool)(h:CG c_1 s_2 k_3=some r):br ep Tryz.f124 [false,false,false] 0 (Gh (c_1,s_2,k_3)) (Gi r):=by
 show Run _ _ (cW (c_1,s_2,k_3) r) [.code Ma] _
 refine rI 129 [(0,aa c_1),(1,ae s_2),(2,I k_3)] [] 1 ?_
 unfold CG at h
 refine ck 11 [3,4,9,10] [] [1,17] [] [.hp 1 0 [] 2 0 0,.hp 17 0 [] 5 0 0,.isl false (s_2.Duties.map ah),I k_3] [some ⟨0,2,[aa c_1]⟩,some ⟨0,5,[ae s_2]⟩] 97 (by kernel_rfl) ?_
 obtain⟨e4,he4,h⟩:=bS h
 refine oq 113 (.iptr (ah e4) 0) rfl (ak rfl rfl rfl (ba rfl rfl rfl rfl he4)) ?_
 refine ck 6 [7] [] [129] [] [.hp 129 0 [] 4 0 0] [some ⟨0,4,[ah e4]⟩] 161 (by kernel_rfl) ?_
 refine dK [0,1,0,4,12,28,63,127,255,511,1023,511,2559,8191,16383,32767,65535,131071,262143,524287,1048575,524287,2621439,8388607,16777215,33554431,67108863,134217727,268435455,134217727,671088639,134217727,2281701375,134217727,8724152319,32346472447,66706210815,135425687551,274475253759,549755813887,1099511627775,2199023255551,4398046511103,8796093022207,17592186044415,35184372088831,70368744177663,140737488355327,281474976710655,562949953421311,1125899906842623,2251799813685247,4503599627370495] rfl (by decide +kernel) ?_
 refine dq [129] [] (.hp 129 0 [] 4 0 0) rfl (al rfl rfl rfl) ?_
 refine dq [129] [] (I e4.Clause) rfl (aN rfl rfl) ?_
 refine dq [1] [] (.hp 1 0 [] 2 0 1) rfl (al rfl rfl rfl) ?_
 refine dq [1] [] (.isl false (c_1.Clauses.map ap)) rfl (aN rfl rfl) ?_
 refine dq [] [] (I (len c_1.Clauses)) rfl (bu rfl rfl rfl (bG rfl)) ?_
 refine dk 1 [18] [I (ai ((len c_1.Clauses) - 1))] ?_
 obtain⟨r5,hr5,h⟩:=bS h
 refine dq [] [] (B r5) rfl (cP (et hr5)) ?_ (dF rfl rfl rfl rfl (bd (bM rfl) (bd (bM rfl) (bd (bM rfl) dx))) (et hr5) (.inr rfl) rfl)
 refine dk 2 [21,20] [B (!r5),B (!r5)] ?_
 obtain⟨y6,hy6,hy61,hy62⟩:=bJ h
 have j6:∀u6,y6=.inr u6→Run ep 0 (cW (c_1,s_2,k_3) r) (.code uj::.code pk::[]) (sT 129 [(2,I k_3),(3,.hp 1 0 [] 2 0 0),(4,.hp 2 0 [] 5 0 0),(7,.hp 3 0 [] 4 0 0),(65,B u6)] [⟨0,2,[aa c_1]⟩,⟨0,5,[ae s_2]⟩,⟨0,4,[ah e4]⟩] 4):=by
  intro u6 hu
  replace h:=hy62 u6 hu
  refine sq h ?_ ?_<;>intro h
  ·refine cq 4 [6] [B false] 20 ?_
   obtain rfl:=sI h
   exact rP [B false]
  ·refine aq 1 ?_
   refine aq 2 ?_
   refine dK [0,1,3,7,15,7,39,127,255,511,7,1031,4095,8191,16383,32767,65535,131071,262143,524287,1048575,524287,2621439,8388607,16777215,33554431,67108863,134217727,268435455,536870911,1073741823,2147483647,4294967295,8589934591,17179869183,34359738367,68719476735,34359738367,171798691839,549755813887,1099511627775,2199023255551,4398046511103,8796093022207,17592186044415,35184372088831,70368744177663,140737488355327,281474976710655,562949953421311,1125899906842623,2251799813685247] rfl (by decide +kernel) ?_
   refine dk 3 [68,67,66] [B (decide (k_3>0)),B (decide (k_3>0)),I k_3] ?_
   obtain⟨y7,hy7,hy71,hy72⟩:=bJ h
   have j7:∀u7,y7=.inr u7→Run ep 0 (cW (c_1,s_2,k_3) r) (.code eL::.code eH::[]) (sT 129 [(3,.hp 1 0 [] 2 0 0),(4,.hp 2 0 [] 5 0 0),(7,.hp 3 0 [] 4 0 0),(117,B u7)] [⟨0,2,[aa c_1]⟩,⟨0,5,[ae s_2]⟩,⟨0,4,[ah e4]⟩] 4):=by
    intro u7 hu
    replace h:=hy72 u7 hu
    refine sq h ?_ ?_<;>intro h
    ·refine cq 4 [6] [B false] 20 ?_
     obtain rfl:=sI h
     exact rP [B false]
    ·refine aq 1 ?_
     refine cq 5 [118,120] [aa c_1,I e4.Clause] 52 ?_
     obtain⟨r8,hr8,h⟩:=bS h
     refine oq 68 (B r8) rfl (cP (adf hr8)) ?_
     refine cq 1 [122] [B r8] 84 ?_
     obtain⟨y9,hy9,hy91,hy92⟩:=bJ h
     have j9:∀u9,y9=.inr u9→Run ep 0 (cW (c_1,s_2,k_3) r) (.code (cR eH)::[]) (sT 129 [(6,B u9)] [] 1):=by
      intro u9 hu
      replace h:=hy92 u9 hu
      obtain rfl:=sI h
      exact rP [B u9]
     have r9:∀r',y9=.inl r'→∀st,cW (c_1,s_2,k_3) r' st→(cW (c_1,s_2,k_3) r) st:=fun r' e st hq=>by rw[hy91 r' e] at hq;exact hq
     replace h:=hy9
     refine sp 122 h rfl ?_ ?_<;>intro h
     ·refine cq 8 [6] [B true] 196 ?_
      exact rf [6] [] (j9 _ (aj h) :)
     ·refine cq 3 [123,125] [ae s_2,I e4.Clause] 132 ?_
      obtain⟨r10,hr10,h⟩:=bS h
      refine oy 148 (I r10) rfl (cP (adi hr10)) ?_
      refine cq 4 [6] [B (r10==1)] 196 ?_
      exact rf [6] [] (j9 _ (aj h) :)
   have r7:∀r',y7=.inl r'→∀st,cW (c_1,s_2,k_3) r' st→(cW (c_1,s_2,k_3) r) st:=fun r' e st hq=>by rw[hy71 r' e] at hq;exact hq
   replace h:=hy7
   refine sp 68 h rfl ?_ ?_<;>intro h
   ·refine dy [2] [] (.hp 2 0 [] 5 0 2) rfl (al rfl rfl rfl) ?_
    refine dy [2] [] (.isl false (s_2.Duties.map ah)) rfl (aN rfl rfl) ?_
    refine dk 2 [72,71] [I (ai (k_3 - 1)),I k_3] ?_
    obtain⟨e11,he11,h⟩:=bS h
    refine dy [] [] (.iptr (ah e11) 0) rfl (ak rfl rfl rfl (ba rfl rfl rfl rfl he11)) ?_
    refine dy [] [] (.iptr (ah e11) 1) rfl (al rfl rfl rfl) ?_
    refine dy [] [] (I e11.Since) rfl (aN rfl rfl) ?_
    refine dy [3] [] (.hp 3 0 [] 4 0 1) rfl (al rfl rfl rfl) ?_
    refine dy [3] [] (I e4.Since) rfl (aN rfl rfl) ?_
    refine dk 3 [80,79,78] [B (decide (e11.Since>e4.Since)),B (decide (e11.Since>e4.Since)),B (decide (e11.Since>e4.Since))] ?_
    obtain⟨u12,hu12,h⟩:=lJ h
    have j12:Run ep 0 (cW (c_1,s_2,k_3) r) (.code eL::.code eH::[]) (sT 129 [(3,.hp 1 0 [] 2 0 0),(4,.hp 2 0 [] 5 0 0),(7,.hp 3 0 [] 4 0 0),(117,B u12)] [⟨0,2,[aa c_1]⟩,⟨0,5,[ae s_2]⟩,⟨0,4,[ah e4]⟩] 4):=by
     exact rf [3,4,7,117] [1,2,3] (j7 _ (aj h) :)
    replace h:=hu12
    clear hu12
    refine sp 80 h rfl ?_ ?_<;>intro h
    ·refine dk 37 [117,116,115,114,113,112,111,110,109,108,107,106,105,104,103,102,101,100,99,98,97,96,95,94,93,92,91,90,89,88,87,86,85,84,83,82,81] [B true,.und,.und,.und,.und,.und,.und,.und,.und,B true,B true,.und,.und,.und,.und,.und,.und,.und,.und,.und,.und,B true,B true,.und,.und,.und,.und,.und,.und,.und,.und,.und,.und,.und,.und,.und,.und] ?_
     refine de 836 rfl rfl ?_
     subst h
     exact rf [3,4,7,117] [1,2,3] (j12 :)
    ·refine dy [3] [] (.hp 3 0 [] 4 0 3) rfl (al rfl rfl rfl) ?_
     refine dy [3] [] (I e4.Status) rfl (aN rfl rfl) ?_
     refine dk 2 [84,83] [B (e4.Status==1),B (e4.Status==1)] ?_
     obtain⟨u13,hu13,h⟩:=lJ h
     have j13:Run ep 0 (cW (c_1,s_2,k_3) r) (.code eL::.code eH::[]) (sT 129 [(3,.hp 1 0 [] 2 0 0),(4,.hp 2 0 [] 5 0 0),(7,.hp 3 0 [] 4 0 0),(117,B u13)] [⟨0,2,[aa c_1]⟩,⟨0,5,[ae s_2]⟩,⟨0,4,[ah e4]⟩] 4):=by
      subst h
      exact rf [3,4,7,117] [1,2,3] (j12 :)
     replace h:=hu13
     clear hu13
     refine sp 84 h rfl ?_ ?_<;>intro h
     ·refine dy [3] [] (.hp 3 0 [] 4 0 2) rfl (al rfl rfl rfl) ?_
      refine dy [3] [] (I e4.Due) rfl (aN rfl rfl) ?_
      refine dy [2] [] (.hp 2 0 [] 5 0 0) rfl (al rfl rfl rfl) ?_
      refine dy [2] [] (I s_2.Day) rfl (aN rfl rfl) ?_
      refine dk 2 [90,89] [B (decide (e4.Due<s_2.Day)),B (decide (e4.Due<s_2.Day))] ?_
      obtain⟨u14,hu14,h⟩:=lJ h
      have j14:Run ep 0 (cW (c_1,s_2,k_3) r) (.code eL::.code eH::[]) (sT 129 [(3,.hp 1 0 [] 2 0 0),(4,.hp 2 0 [] 5 0 0),(7,.hp 3 0 [] 4 0 0),(117,B u14)] [⟨0,2,[aa c_1]⟩,⟨0,5,[ae s_2]⟩,⟨0,4,[ah e4]⟩] 4):=by
       subst h
       exact rf [3,4,7,117] [1,2,3] (j13 :)
      replace h:=hu14
      clear hu14
      refine sp 90 h rfl ?_ ?_<;>intro h
      ·refine dk 27 [117,116,115,114,113,112,111,110,109,108,107,106,105,104,103,102,101,100,99,98,97,96,95,94,93,92,91] [B true,.und,.und,.und,.und,.und,.und,.und,.und,B true,B true,.und,.und,.und,.und,.und,.und,.und,.und,.und,.und,B true,B true,B true,B true,.und,.und] ?_
       refine de 836 rfl rfl ?_
       subst h
       exact rf [3,4,7,117] [1,2,3] (j14 :)
      ·refine dy [2] [] (.hp 2 0 [] 5 0 4) rfl (al rfl rfl rfl) ?_
       refine dy [2] [] (B s_2.Over) rfl (aN rfl rfl) ?_
       refine dk 4 [96,95,94,93] [B s_2.Over,B s_2.Over,B s_2.Over,B s_2.Over] ?_
       obtain⟨u15,hu15,h⟩:=lJ h
       have j15:Run ep 0 (cW (c_1,s_2,k_3) r) (.code eL::.code eH::[]) (sT 129 [(3,.hp 1 0 [] 2 0 0),(4,.hp 2 0 [] 5 0 0),(7,.hp 3 0 [] 4 0 0),(117,B u15)] [⟨0,2,[aa c_1]⟩,⟨0,5,[ae s_2]⟩,⟨0,4,[ah e4]⟩] 4):=by
        subst h
        exact rf [3,4,7,117] [1,2,3] (j14 :)
       replace h:=hu15
       clear hu15
       refine sp 96 h rfl ?_ ?_<;>intro h
       ·refine dk 21 [117,116,115,114,113,112,111,110,109,108,107,106,105,104,103,102,101,100,99,98,97] [B true,.und,.und,.und,.und,.und,.und,.und,.und,B true,B true,.und,.und,.und,.und,.und,.und,.und,.und,.und,.und] ?_
        refine de 836 rfl rfl ?_
        subst h
        exact rf [3,4,7,117] [1,2,3] (j15 :)
       ·refine dy [3] [] (.hp 3 0 [] 4 0 3) rfl (al rfl rfl rfl) ?_
        refine dy [3] [] (I e4.Status) rfl (aN rfl rfl) ?_
        refine dk 2 [100,99] [B (e4.Status==3),B (e4.Status==3)] ?_
        obtain⟨u16,hu16,h⟩:=lJ h
        have j16:Run ep 0 (cW (c_1,s_2,k_3) r) (.code eL::.code eH::[]) (sT 129 [(3,.hp 1 0 [] 2 0 0),(4,.hp 2 0 [] 5 0 0),(7,.hp 3 0 [] 4 0 0),(117,B u16)] [⟨0,2,[aa c_1]⟩,⟨0,5,[ae s_2]⟩,⟨0,4,[ah e4]⟩] 4):=by
         subst h
         exact rf [3,4,7,117] [1,2,3] (j15 :)
        replace h:=hu16
        clear hu16
        refine sp 100 h rfl ?_ ?_<;>intro h
        ·refine dy [3] [] (.hp 3 0 [] 4 0 2) rfl (al rfl rfl rfl) ?_
         refine dy [3] [] (I e4.Due) rfl (aN rfl rfl) ?_
         refine dy [2] [] (.hp 2 0 [] 5 0 0) rfl (al rfl rfl rfl) ?_
         refine dy [2] [] (I s_2.Day) rfl (aN rfl rfl) ?_
         refine dk 4 [108,107,106,105] [B (decide (e4.Due≥s_2.Day)),B (decide (e4.Due≥s_2.Day)),B (decide (e4.Due≥s_2.Day)),B (decide (e4.Due≥s_2.Day))] ?_
         obtain⟨u17,hu17,h⟩:=lJ h
         have j17:Run ep 0 (cW (c_1,s_2,k_3) r) (.code eL::.code eH::[]) (sT 129 [(3,.hp 1 0 [] 2 0 0),(4,.hp 2 0 [] 5 0 0),(7,.hp 3 0 [] 4 0 0),(117,B u17)] [⟨0,2,[aa c_1]⟩,⟨0,5,[ae s_2]⟩,⟨0,4,[ah e4]⟩] 4):=by
          subst h
          exact rf [3,4,7,117] [1,2,3] (j16 :)
         replace h:=hu17
         clear hu17
         refine sp 108 h rfl ?_ ?_<;>intro h
         ·refine dk 9 [117,116,115,114,113,112,111,110,109] [B true,.und,.und,.und,.und,.und,.und,.und,.und] ?_
          refine de 836 rfl rfl ?_
          subst h
          exact rf [3,4,7,117] [1,2,3] (j17 :)
         ·refine dy [3] [] (.hp 3 0 [] 4 0 3) rfl (al rfl rfl rfl) ?_
          refine dy [3] [] (I e4.Status) rfl (aN rfl rfl) ?_
          refine dk 2 [112,111] [B (e4.Status==4),B (e4.Status==4)] ?_
          obtain⟨u18,hu18,h⟩:=lJ h
          have j18:Run ep 0 (cW (c_1,s_2,k_3) r) (.code eL::.code eH::[]) (sT 129 [(3,.hp 1 0 [] 2 0 0),(4,.hp 2 0 [] 5 0 0),(7,.hp 3 0 [] 4 0 0),(117,B u18)] [⟨0,2,[aa c_1]⟩,⟨0,5,[ae s_2]⟩,⟨0,4,[ah e4]⟩] 4):=by
           subst h
           exact rf [3,4,7,117] [1,2,3] (j17 :)
          replace h:=hu18
          clear hu18
          refine sp 112 h rfl ?_ ?_<;>intro h
          ·refine dy [2] [] (.hp 2 0 [] 5 0 4) rfl (al rfl rfl rfl) ?_
           refine dy [2] [] (B s_2.Over) rfl (aN rfl rfl) ?_
           refine dk 3 [117,116,115] [B (!s_2.Over),B (!s_2.Over),B (!s_2.Over)] ?_
           refine de 836 rfl rfl ?_
           subst h
           exact rf [3,4,7,117] [1,2,3] (j18 :)
          ·refine dk 5 [117,116,115,114,113] [B false,B false,.und,.und,.und] ?_
           refine de 836 rfl rfl ?_
           subst h
           exact rf [3,4,7,117] [1,2,3] (j18 :)
        ·refine dk 8 [108,107,106,105,104,103,102,101] [B false,B false,B false,.und,.und,.und,.und,.und] ?_
         refine dy [3] [] (.hp 3 0 [] 4 0 3) rfl (al rfl rfl rfl) ?_
         refine dy [3] [] (I e4.Status) rfl (aN rfl rfl) ?_
         refine dk 2 [112,111] [B (e4.Status==4),B (e4.Status==4)] ?_
         obtain⟨u19,hu19,h⟩:=lJ h
         have j19:Run ep 0 (cW (c_1,s_2,k_3) r) (.code eL::.code eH::[]) (sT 129 [(3,.hp 1 0 [] 2 0 0),(4,.hp 2 0 [] 5 0 0),(7,.hp 3 0 [] 4 0 0),(117,B u19)] [⟨0,2,[aa c_1]⟩,⟨0,5,[ae s_2]⟩,⟨0,4,[ah e4]⟩] 4):=by
          subst h
          exact rf [3,4,7,117] [1,2,3] (j16 :)
         replace h:=hu19
         clear hu19
         refine sp 112 h rfl ?_ ?_<;>intro h
         ·refine dy [2] [] (.hp 2 0 [] 5 0 4) rfl (al rfl rfl rfl) ?_
          refine dy [2] [] (B s_2.Over) rfl (aN rfl rfl) ?_
          refine dk 3 [117,116,115] [B (!s_2.Over),B (!s_2.Over),B (!s_2.Over)] ?_
          refine de 836 rfl rfl ?_
          subst h
          exact rf [3,4,7,117] [1,2,3] (j19 :)
         ·refine dk 5 [117,116,115,114,113] [B false,B false,.und,.und,.und] ?_
          refine de 836 rfl rfl ?_
          subst h
          exact rf [3,4,7,117] [1,2,3] (j19 :)
     ·refine dk 12 [96,95,94,93,92,91,90,89,88,87,86,85] [B false,B false,B false,.und,.und,.und,.und,.und,.und,.und,.und,.und] ?_
      refine dy [3] [] (.hp 3 0 [] 4 0 3) rfl (al rfl rfl rfl) ?_
      refine dy [3] [] (I e4.Status) rfl (aN rfl rfl) ?_
      refine dk 2 [100,99] [B (e4.Status==3),B (e4.Status==3)] ?_
      obtain⟨u20,hu20,h⟩:=lJ h
      have j20:Run ep 0 (cW (c_1,s_2,k_3) r) (.code eL::.code eH::[]) (sT 129 [(3,.hp 1 0 [] 2 0 0),(4,.hp 2 0 [] 5 0 0),(7,.hp 3 0 [] 4 0 0),(117,B u20)] [⟨0,2,[aa c_1]⟩,⟨0,5,[ae s_2]⟩,⟨0,4,[ah e4]⟩] 4):=by
       subst h
       exact rf [3,4,7,117] [1,2,3] (j13 :)
      replace h:=hu20
      clear hu20
      refine sp 100 h rfl ?_ ?_<;>intro h
      ·refine dy [3] [] (.hp 3 0 [] 4 0 2) rfl (al rfl rfl rfl) ?_
       refine dy [3] [] (I e4.Due) rfl (aN rfl rfl) ?_
       refine dy [2] [] (.hp 2 0 [] 5 0 0) rfl (al rfl rfl rfl) ?_
       refine dy [2] [] (I s_2.Day) rfl (aN rfl rfl) ?_
       refine dk 4 [108,107,106,105] [B (decide (e4.Due≥s_2.Day)),B (decide (e4.Due≥s_2.Day)),B (decide (e4.Due≥s_2.Day)),B (decide (e4.Due≥s_2.Day))] ?_
       obtain⟨u21,hu21,h⟩:=lJ h
       have j21:Run ep 0 (cW (c_1,s_2,k_3) r) (.code eL::.code eH::[]) (sT 129 [(3,.hp 1 0 [] 2 0 0),(4,.hp 2 0 [] 5 0 0),(7,.hp 3 0 [] 4 0 0),(117,B u21)] [⟨0,2,[aa c_1]⟩,⟨0,5,[ae s_2]⟩,⟨0,4,[ah e4]⟩] 4):=by
        subst h
        exact rf [3,4,7,117] [1,2,3] (j20 :)
       replace h:=hu21
       clear hu21
       refine sp 108 h rfl ?_ ?_<;>intro h
       ·refine dk 9 [117,116,115,114,113,112,111,110,109] [B true,.und,.und,.und,.und,.und,.und,.und,.und] ?_
        refine de 836 rfl rfl ?_
        subst h
        exact rf [3,4,7,117] [1,2,3] (j21 :)
       ·refine dy [3] [] (.hp 3 0 [] 4 0 3) rfl (al rfl rfl rfl) ?_
        refine dy [3] [] (I e4.Status) rfl (aN rfl rfl) ?_
        refine dk 2 [112,111] [B (e4.Status==4),B (e4.Status==4)] ?_
        obtain⟨u22,hu22,h⟩:=lJ h
        have j22:Run ep 0 (cW (c_1,s_2,k_3) r) (.code eL::.code eH::[]) (sT 129 [(3,.hp 1 0 [] 2 0 0),(4,.hp 2 0 [] 5 0 0),(7,.hp 3 0 [] 4 0 0),(117,B u22)] [⟨0,2,[aa c_1]⟩,⟨0,5,[ae s_2]⟩,⟨0,4,[ah e4]⟩] 4):=by
         subst h
         exact rf [3,4,7,117] [1,2,3] (j21 :)
        replace h:=hu22
        clear hu22
        refine sp 112 h rfl ?_ ?_<;>intro h
        ·refine dy [2] [] (.hp 2 0 [] 5 0 4) rfl (al rfl rfl rfl) ?_
         refine dy [2] [] (B s_2.Over) rfl (aN rfl rfl) ?_
         refine dk 3 [117,116,115] [B (!s_2.Over),B (!s_2.Over),B (!s_2.Over)] ?_
         refine de 836 rfl rfl ?_
         subst h
         exact rf [3,4,7,117] [1,2,3] (j22 :)
        ·refine dk 5 [117,116,115,114,113] [B false,B false,.und,.und,.und] ?_
         refine de 836 rfl rfl ?_
         subst h
         exact rf [3,4,7,117] [1,2,3] (j22 :)
      ·refine dk 8 [108,107,106,105,104,103,102,101] [B false,B false,B false,.und,.und,.und,.und,.und] ?_
       refine dy [3] [] (.hp 3 0 [] 4 0 3) rfl (al rfl rfl rfl) ?_
       refine dy [3] [] (I e4.Status) rfl (aN rfl rfl) ?_
       refine dk 2 [112,111] [B (e4.Status==4),B (e4.Status==4)] ?_
       obtain⟨u23,hu23,h⟩:=lJ h
       have j23:Run ep 0 (cW (c_1,s_2,k_3) r) (.code eL::.code eH::[]) (sT 129 [(3,.hp 1 0 [] 2 0 0),(4,.hp 2 0 [] 5 0 0),(7,.hp 3 0 [] 4 0 0),(117,B u23)] [⟨0,2,[aa c_1]⟩,⟨0,5,[ae s_2]⟩,⟨0,4,[ah e4]⟩] 4):=by
        subst h
        exact rf [3,4,7,117] [1,2,3] (j20 :)
       replace h:=hu23
       clear hu23
       refine sp 112 h rfl ?_ ?_<;>intro h
       ·refine dy [2] [] (.hp 2 0 [] 5 0 4) rfl (al rfl rfl rfl) ?_
        refine dy [2] [] (B s_2.Over) rfl (aN rfl rfl) ?_
        refine dk 3 [117,116,115] [B (!s_2.Over),B (!s_2.Over),B (!s_2.Over)] ?_
        refine de 836 rfl rfl ?_
        subst h
        exact rf [3,4,7,117] [1,2,3] (j23 :)
       ·refine dk 5 [117,116,115,114,113] [B false,B false,.und,.und,.und] ?_
        refine de 836 rfl rfl ?_
        subst h
        exact rf [3,4,7,117] [1,2,3] (j23 :)
   ·refine dk 12 [80,79,78,77,76,75,74,73,72,71,70,69] [B false,B false,.und,.und,.und,.und,.und,.und,.und,.und,.und,.und] ?_
    refine dy [3] [] (.hp 3 0 [] 4 0 3) rfl (al rfl rfl rfl) ?_
    refine dy [3] [] (I e4.Status) rfl (aN rfl rfl) ?_
    refine dk 2 [84,83] [B (e4.Status==1),B (e4.Status==1)] ?_
    obtain⟨u24,hu24,h⟩:=lJ h
    have j24:Run ep 0 (cW (c_1,s_2,k_3) r) (.code eL::.code eH::[]) (sT 129 [(3,.hp 1 0 [] 2 0 0),(4,.hp 2 0 [] 5 0 0),(7,.hp 3 0 [] 4 0 0),(117,B u24)] [⟨0,2,[aa c_1]⟩,⟨0,5,[ae s_2]⟩,⟨0,4,[ah e4]⟩] 4):=by
     exact rf [3,4,7,117] [1,2,3] (j7 _ (aj h) :)
    replace h:=hu24
    clear hu24
    refine sp 84 h rfl ?_ ?_<;>intro h
    ·refine dy [3] [] (.hp 3 0 [] 4 0 2) rfl (al rfl rfl rfl) ?_
     refine dy [3] [] (I e4.Due) rfl (aN rfl rfl) ?_
     refine dy [2] [] (.hp 2 0 [] 5 0 0) rfl (al rfl rfl rfl) ?_
     refine dy [2] [] (I s_2.Day) rfl (aN rfl rfl) ?_
     refine dk 2 [90,89] [B (decide (e4.Due<s_2.Day)),B (decide (e4.Due<s_2.Day))] ?_
     obtain⟨u25,hu25,h⟩:=lJ h
     have j25:Run ep 0 (cW (c_1,s_2,k_3) r) (.code eL::.code eH::[]) (sT 129 [(3,.hp 1 0 [] 2 0 0),(4,.hp 2 0 [] 5 0 0),(7,.hp 3 0 [] 4 0 0),(117,B u25)] [⟨0,2,[aa c_1]⟩,⟨0,5,[ae s_2]⟩,⟨0,4,[ah e4]⟩] 4):=by
      subst h
      exact rf [3,4,7,117] [1,2,3] (j24 :)
     replace h:=hu25
     clear hu25
     refine sp 90 h rfl ?_ ?_<;>intro h
     ·refine dk 27 [117,116,115,114,113,112,111,110,109,108,107,106,105,104,103,102,101,100,99,98,97,96,95,94,93,92,91] [B true,.und,.und,.und,.und,.und,.und,.und,.und,B true,B true,.und,.und,.und,.und,.und,.und,.und,.und,.und,.und,B true,B true,B true,B true,.und,.und] ?_
      refine de 836 rfl rfl ?_
      subst h
      exact rf [3,4,7,117] [1,2,3] (j25 :)
     ·refine dy [2] [] (.hp 2 0 [] 5 0 4) rfl (al rfl rfl rfl) ?_
      refine dy [2] [] (B s_2.Over) rfl (aN rfl rfl) ?_
      refine dk 4 [96,95,94,93] [B s_2.Over,B s_2.Over,B s_2.Over,B s_2.Over] ?_
      obtain⟨u26,hu26,h⟩:=lJ h
      have j26:Run ep 0 (cW (c_1,s_2,k_3) r) (.code eL::.code eH::[]) (sT 129 [(3,.hp 1 0 [] 2 0 0),(4,.hp 2 0 [] 5 0 0),(7,.hp 3 0 [] 4 0 0),(117,B u26)] [⟨0,2,[aa c_1]⟩,⟨0,5,[ae s_2]⟩,⟨0,4,[ah e4]⟩] 4):=by
       subst h
       exact rf [3,4,7,117] [1,2,3] (j25 :)
      replace h:=hu26
      clear hu26
      refine sp 96 h rfl ?_ ?_<;>intro h
      ·refine dk 21 [117,116,115,114,113,112,111,110,109,108,107,106,105,104,103,102,101,100,99,98,97] [B true,.und,.und,.und,.und,.und,.und,.und,.und,B true,B true,.und,.und,.und,.und,.und,.und,.und,.und,.und,.und] ?_
       refine de 836 rfl rfl ?_
       subst h
       exact rf [3,4,7,117] [1,2,3] (j26 :)
      ·refine dy [3] [] (.hp 3 0 [] 4 0 3) rfl (al rfl rfl rfl) ?_
       refine dy [3] [] (I e4.Status) rfl (aN rfl rfl) ?_
       refine dk 2 [100,99] [B (e4.Status==3),B (e4.Status==3)] ?_
       obtain⟨u27,hu27,h⟩:=lJ h
       have j27:Run ep 0 (cW (c_1,s_2,k_3) r) (.code eL::.code eH::[]) (sT 129 [(3,.hp 1 0 [] 2 0 0),(4,.hp 2 0 [] 5 0 0),(7,.hp 3 0 [] 4 0 0),(117,B u27)] [⟨0,2,[aa c_1]⟩,⟨0,5,[ae s_2]⟩,⟨0,4,[ah e4]⟩] 4):=by
        subst h
        exact rf [3,4,7,117] [1,2,3] (j26 :)
       replace h:=hu27
       clear hu27
       refine sp 100 h rfl ?_ ?_<;>intro h
       ·refine dy [3] [] (.hp 3 0 [] 4 0 2) rfl (al rfl rfl rfl) ?_
        refine dy [3] [] (I e4.Due) rfl (aN rfl rfl) ?_
        refine dy [2] [] (.hp 2 0 [] 5 0 0) rfl (al rfl rfl rfl) ?_
        refine dy [2] [] (I s_2.Day) rfl (aN rfl rfl) ?_
        refine dk 4 [108,107,106,105] [B (decide (e4.Due≥s_2.Day)),B (decide (e4.Due≥s_2.Day)),B (decide (e4.Due≥s_2.Day)),B (decide (e4.Due≥s_2.Day))] ?_
        obtain⟨u28,hu28,h⟩:=lJ h
        have j28:Run ep 0 (cW (c_1,s_2,k_3) r) (.code eL::.code eH::[]) (sT 129 [(3,.hp 1 0 [] 2 0 0),(4,.hp 2 0 [] 5 0 0),(7,.hp 3 0 [] 4 0 0),(117,B u28)] [⟨0,2,[aa c_1]⟩,⟨0,5,[ae s_2]⟩,⟨0,4,[ah e4]⟩] 4):=by
         subst h
         exact rf [3,4,7,117] [1,2,3] (j27 :)
        replace h:=hu28
        clear hu28
        refine sp 108 h rfl ?_ ?_<;>intro h
        ·refine dk 9 [117,116,115,114,113,112,111,110,109] [B true,.und,.und,.und,.und,.und,.und,.und,.und] ?_
         refine de 836 rfl rfl ?_
         subst h
         exact rf [3,4,7,117] [1,2,3] (j28 :)
        ·refine dy [3] [] (.hp 3 0 [] 4 0 3) rfl (al rfl rfl rfl) ?_
         refine dy [3] [] (I e4.Status) rfl (aN rfl rfl) ?_
         refine dk 2 [112,111] [B (e4.Status==4),B (e4.Status==4)] ?_
         obtain⟨u29,hu29,h⟩:=lJ h
         have j29:Run ep 0 (cW (c_1,s_2,k_3) r) (.code eL::.code eH::[]) (sT 129 [(3,.hp 1 0 [] 2 0 0),(4,.hp 2 0 [] 5 0 0),(7,.hp 3 0 [] 4 0 0),(117,B u29)] [⟨0,2,[aa c_1]⟩,⟨0,5,[ae s_2]⟩,⟨0,4,[ah e4]⟩] 4):=by
          subst h
          exact rf [3,4,7,117] [1,2,3] (j28 :)
         replace h:=hu29
         clear hu29
         refine sp 112 h rfl ?_ ?_<;>intro h
         ·refine dy [2] [] (.hp 2 0 [] 5 0 4) rfl (al rfl rfl rfl) ?_
          refine dy [2] [] (B s_2.Over) rfl (aN rfl rfl) ?_
          refine dk 3 [117,116,115] [B (!s_2.Over),B (!s_2.Over),B (!s_2.Over)] ?_
          refine de 836 rfl rfl ?_
          subst h
          exact rf [3,4,7,117] [1,2,3] (j29 :)
         ·refine dk 5 [117,116,115,114,113] [B false,B false,.und,.und,.und] ?_
          refine de 836 rfl rfl ?_
          subst h
          exact rf [3,4,7,117] [1,2,3] (j29 :)
       ·refine dk 8 [108,107,106,105,104,103,102,101] [B false,B false,B false,.und,.und,.und,.und,.und] ?_
        refine dy [3] [] (.hp 3 0 [] 4 0 3) rfl (al rfl rfl rfl) ?_
        refine dy [3] [] (I e4.Status) rfl (aN rfl rfl) ?_
        refine dk 2 [112,111] [B (e4.Status==4),B (e4.Status==4)] ?_
        obtain⟨u30,hu30,h⟩:=lJ h
        have j30:Run ep 0 (cW (c_1,s_2,k_3) r) (.code eL::.code eH::[]) (sT 129 [(3,.hp 1 0 [] 2 0 0),(4,.hp 2 0 [] 5 0 0),(7,.hp 3 0 [] 4 0 0),(117,B u30)] [⟨0,2,[aa c_1]⟩,⟨0,5,[ae s_2]⟩,⟨0,4,[ah e4]⟩] 4):=by
         subst h
         exact rf [3,4,7,117] [1,2,3] (j27 :)
        replace h:=hu30
        clear hu30
        refine sp 112 h rfl ?_ ?_<;>intro h
        ·refine dy [2] [] (.hp 2 0 [] 5 0 4) rfl (al rfl rfl rfl) ?_
         refine dy [2] [] (B s_2.Over) rfl (aN rfl rfl) ?_
         refine dk 3 [117,116,115] [B (!s_2.Over),B (!s_2.Over),B (!s_2.Over)] ?_
         refine de 836 rfl rfl ?_
         subst h
         exact rf [3,4,7,117] [1,2,3] (j30 :)
        ·refine dk 5 [117,116,115,114,113] [B false,B false,.und,.und,.und] ?_
         refine de 836 rfl rfl ?_
         subst h
         exact rf [3,4,7,117] [1,2,3] (j30 :)
    ·refine dk 12 [96,95,94,93,92,91,90,89,88,87,86,85] [B false,B false,B false,.und,.und,.und,.und,.und,.und,.und,.und,.und] ?_
     refine dy [3] [] (.hp 3 0 [] 4 0 3) rfl (al rfl rfl rfl) ?_
     refine dy [3] [] (I e4.Status) rfl (aN rfl rfl) ?_
     refine dk 2 [100,99] [B (e4.Status==3),B (e4.Status==3)] ?_
     obtain⟨u31,hu31,h⟩:=lJ h
     have j31:Run ep 0 (cW (c_1,s_2,k_3) r) (.code eL::.code eH::[]) (sT 129 [(3,.hp 1 0 [] 2 0 0),(4,.hp 2 0 [] 5 0 0),(7,.hp 3 0 [] 4 0 0),(117,B u31)] [⟨0,2,[aa c_1]⟩,⟨0,5,[ae s_2]⟩,⟨0,4,[ah e4]⟩] 4):=by
      subst h
      exact rf [3,4,7,117] [1,2,3] (j24 :)
     replace h:=hu31
     clear hu31
     refine sp 100 h rfl ?_ ?_<;>intro h
     ·refine dy [3] [] (.hp 3 0 [] 4 0 2) rfl (al rfl rfl rfl) ?_
      refine dy [3] [] (I e4.Due) rfl (aN rfl rfl) ?_
      refine dy [2] [] (.hp 2 0 [] 5 0 0) rfl (al rfl rfl rfl) ?_
      refine dy [2] [] (I s_2.Day) rfl (aN rfl rfl) ?_
      refine dk 4 [108,107,106,105] [B (decide (e4.Due≥s_2.Day)),B (decide (e4.Due≥s_2.Day)),B (decide (e4.Due≥s_2.Day)),B (decide (e4.Due≥s_2.Day))] ?_
      obtain⟨u32,hu32,h⟩:=lJ h
      have j32:Run ep 0 (cW (c_1,s_2,k_3) r) (.code eL::.code eH::[]) (sT 129 [(3,.hp 1 0 [] 2 0 0),(4,.hp 2 0 [] 5 0 0),(7,.hp 3 0 [] 4 0 0),(117,B u32)] [⟨0,2,[aa c_1]⟩,⟨0,5,[ae s_2]⟩,⟨0,4,[ah e4]⟩] 4):=by
       subst h
       exact rf [3,4,7,117] [1,2,3] (j31 :)
      replace h:=hu32
      clear hu32
      refine sp 108 h rfl ?_ ?_<;>intro h
      ·refine dk 9 [117,116,115,114,113,112,111,110,109] [B true,.und,.und,.und,.und,.und,.und,.und,.und] ?_
       refine de 836 rfl rfl ?_
       subst h
       exact rf [3,4,7,117] [1,2,3] (j32 :)
      ·refine dy [3] [] (.hp 3 0 [] 4 0 3) rfl (al rfl rfl rfl) ?_
       refine dy [3] [] (I e4.Status) rfl (aN rfl rfl) ?_
       refine dk 2 [112,111] [B (e4.Status==4),B (e4.Status==4)] ?_
       obtain⟨u33,hu33,h⟩:=lJ h
       have j33:Run ep 0 (cW (c_1,s_2,k_3) r) (.code eL::.code eH::[]) (sT 129 [(3,.hp 1 0 [] 2 0 0),(4,.hp 2 0 [] 5 0 0),(7,.hp 3 0 [] 4 0 0),(117,B u33)] [⟨0,2,[aa c_1]⟩,⟨0,5,[ae s_2]⟩,⟨0,4,[ah e4]⟩] 4):=by
        subst h
        exact rf [3,4,7,117] [1,2,3] (j32 :)
       replace h:=hu33
       clear hu33
       refine sp 112 h rfl ?_ ?_<;>intro h
       ·refine dy [2] [] (.hp 2 0 [] 5 0 4) rfl (al rfl rfl rfl) ?_
        refine dy [2] [] (B s_2.Over) rfl (aN rfl rfl) ?_
        refine dk 3 [117,116,115] [B (!s_2.Over),B (!s_2.Over),B (!s_2.Over)] ?_
        refine de 836 rfl rfl ?_
        subst h
        exact rf [3,4,7,117] [1,2,3] (j33 :)
       ·refine dk 5 [117,116,115,114,113] [B false,B false,.und,.und,.und] ?_
        refine de 836 rfl rfl ?_
        subst h
        exact rf [3,4,7,117] [1,2,3] (j33 :)
     ·refine dk 8 [108,107,106,105,104,103,102,101] [B false,B false,B false,.und,.und,.und,.und,.und] ?_
      refine dy [3] [] (.hp 3 0 [] 4 0 3) rfl (al rfl rfl rfl) ?_
      refine dy [3] [] (I e4.Status) rfl (aN rfl rfl) ?_
      refine dk 2 [112,111] [B (e4.Status==4),B (e4.Status==4)] ?_
      obtain⟨u34,hu34,h⟩:=lJ h
      have j34:Run ep 0 (cW (c_1,s_2,k_3) r) (.code eL::.code eH::[]) (sT 129 [(3,.hp 1 0 [] 2 0 0),(4,.hp 2 0 [] 5 0 0),(7,.hp 3 0 [] 4 0 0),(117,B u34)] [⟨0,2,[aa c_1]⟩,⟨0,5,[ae s_2]⟩,⟨0,4,[ah e4]⟩] 4):=by
       subst h
       exact rf [3,4,7,117] [1,2,3] (j31 :)
      replace h:=hu34
      clear hu34
      refine sp 112 h rfl ?_ ?_<;>intro h
      ·refine dy [2] [] (.hp 2 0 [] 5 0 4) rfl (al rfl rfl rfl) ?_
       refine dy [2] [] (B s_2.Over) rfl (aN rfl rfl) ?_
       refine dk 3 [117,116,115] [B (!s_2.Over),B (!s_2.Over),B (!s_2.Over)] ?_
       refine de 836 rfl rfl ?_
       subst h
       exact rf [3,4,7,117] [1,2,3] (j34 :)
      ·refine dk 5 [117,116,115,114,113] [B false,B false,.und,.und,.und] ?_
       refine de 836 rfl rfl ?_
       subst h
       exact rf [3,4,7,117] [1,2,3] (j34 :)
 have r6:∀r',y6=.inl r'→∀st,cW (c_1,s_2,k_3) r' st→(cW (c_1,s_2,k_3) r) st:=fun r' e st hq=>by rw[hy61 r' e] at hq;exact hq
 replace h:=hy6
 refine sp 21 h rfl ?_ ?_<;>intro h
 ·refine dk 44 [65,64,63,62,61,60,59,58,57,56,55,54,53,52,51,50,49,48,47,46,45,44,43,42,41,40,39,38,37,36,35,34,33,32,31,30,29,28,27,26,25,24,23,22] [B true,.und,.und,.und,.und,B true,B true,.und,.und,.und,.und,B true,B true,.und,.und,.und,.und,.und,.und,.und,.und,.und,.und,.und,.und,.und,B true,B true,.und,.und,.und,.und,.und,.und,B true,B true,.und,.und,.und,.und,.und,.und,.und,.und] ?_
  refine de 1009 rfl rfl ?_
  exact rf [2,3,4,7,65] [1,17,129] (j6 _ (aj h) :)
 ·refine dy [1] [] (.hp 1 0 [] 2 0 1) rfl (al rfl rfl rfl) ?_
  refine dy [1] [] (.isl false (c_1.Clauses.map ap)) rfl (aN rfl rfl) ?_
  refine dy [129] [] (.hp 129 0 [] 4 0 0) rfl (al rfl rfl rfl) ?_
  refine dy [129] [] (I e4.Clause) rfl (aN rfl rfl) ?_
  obtain⟨e35,he35,h⟩:=bS h
  refine dy [] [] (.iptr (au e35) 0) rfl (ak rfl rfl rfl (ba rfl rfl rfl rfl he35)) ?_
  refine dy [] [] (.iptr (au e35) 1) rfl (al rfl rfl rfl) ?_
  refine dy [] [] (I e35.Kind) rfl (aN rfl rfl) ?_
  refine dk 3 [31,30,29] [B (e35.Kind != 1),B (e35.Kind != 1),B (e35.Kind != 1)] ?_
  obtain⟨y36,hy36,hy361,hy362⟩:=bL h
  have j36:∀u36,y36=.inr u36→Run ep 0 (cW (c_1,s_2,k_3) r) (.code uj::.code pk::[]) (sT 129 [(2,I k_3),(3,.hp 1 0 [] 2 0 0),(4,.hp 2 0 [] 5 0 0),(7,.hp 3 0 [] 4 0 0),(65,B u36)] [⟨0,2,[aa c_1]⟩,⟨0,5,[ae s_2]⟩,⟨0,4,[ah e4]⟩] 4):=by
   intro u36 hu
   replace h:=hy362 u36 hu
   exact rf [2,3,4,7,65] [1,2,3] (j6 _ (aj h) :)
  have r36:∀r',y36=.inl r'→∀st,cW (c_1,s_2,k_3) r' st→(cW (c_1,s_2,k_3) r) st:=fun r' e st hq=>r6 r' (hy361 r' e) st hq
  replace h:=hy36
  refine sp 31 h rfl ?_ ?_<;>intro h
  ·refine dk 34 [65,64,63,62,61,60,59,58,57,56,55,54,53,52,51,50,49,48,47,46,45,44,43,42,41,40,39,38,37,36,35,34,33,32] [B true,.und,.und,.und,.und,B true,B true,.und,.und,.und,.und,B true,B true,.und,.und,.und,.und,.und,.und,.und,.und,.und,.und,.und,.und,.und,B true,B true,.und,.und,.und,.und,.und,.und] ?_
   refine de 1009 rfl rfl ?_
   exact rf [2,3,4,7,65] [1,17,129] (j36 _ (aj h) :)
  ·refine dy [129] [] (.hp 129 0 [] 4 0 1) rfl (al rfl rfl rfl) ?_
   refine dy [129] [] (I e4.Since) rfl (aN rfl rfl) ?_
   refine dy [17] [] (.hp 17 0 [] 5 0 0) rfl (al rfl rfl rfl) ?_
   refine dy [17] [] (I s_2.Day) rfl (aN rfl rfl) ?_
   obtain⟨r37,hr37,h⟩:=bS h
   refine dy [] [] (B r37) rfl (cP (et hr37)) ?_ (dF rfl rfl rfl rfl (bd (bM rfl) (bd (bM rfl) (bd (bM rfl) dx))) (et hr37) (.inr rfl) rfl)
   refine dk 3 [39,38,37] [B (!r37),B (!r37),B (!r37)] ?_
   obtain⟨y38,hy38,hy381,hy382⟩:=bL h
   have j38:∀u38,y38=.inr u38→Run ep 0 (cW (c_1,s_2,k_3) r) (.code uj::.code pk::[]) (sT 129 [(2,I k_3),(3,.hp 1 0 [] 2 0 0),(4,.hp 2 0 [] 5 0 0),(7,.hp 3 0 [] 4 0 0),(65,B u38)] [⟨0,2,[aa c_1]⟩,⟨0,5,[ae s_2]⟩,⟨0,4,[ah e4]⟩] 4):=by
    intro u38 hu
    replace h:=hy382 u38 hu
    exact rf [2,3,4,7,65] [1,2,3] (j36 _ (aj h) :)
   have r38:∀r',y38=.inl r'→∀st,cW (c_1,s_2,k_3) r' st→(cW (c_1,s_2,k_3) r) st:=fun r' e st hq=>r36 r' (hy381 r' e) st hq
   replace h:=hy38
   refine sp 39 h rfl ?_ ?_<;>intro h
   ·refine dk 26 [65,64,63,62,61,60,59,58,57,56,55,54,53,52,51,50,49,48,47,46,45,44,43,42,41,40] [B true,.und,.und,.und,.und,B true,B true,.und,.und,.und,.und,B true,B true,.und,.und,.und,.und,.und,.und,.und,.und,.und,.und,.und,.und,.und] ?_
    refine de 1009 rfl rfl ?_
    exact rf [2,3,4,7,65] [1,17,129] (j38 _ (aj h) :)
   ·refine dy [129] [] (.hp 129 0 [] 4 0 2) rfl (al rfl rfl rfl) ?_
    refine dy [129] [] (I e4.Due) rfl (aN rfl rfl) ?_
    refine dy [129] [] (.hp 129 0 [] 4 0 1) rfl (al rfl rfl rfl) ?_
    refine dy [129] [] (I e4.Since) rfl (aN rfl rfl) ?_
    refine dy [1] [] (.hp 1 0 [] 2 0 1) rfl (al rfl rfl rfl) ?_
    refine dy [1] [] (.isl false (c_1.Clauses.map ap)) rfl (aN rfl rfl) ?_
    refine dy [129] [] (.hp 129 0 [] 4 0 0) rfl (al rfl rfl rfl) ?_
    refine dy [129] [] (I e4.Clause) rfl (aN rfl rfl) ?_
    obtain⟨e39,he39,h⟩:=bS h
    refine dy [] [] (.iptr (au e39) 0) rfl (ak rfl rfl rfl (ba rfl rfl rfl rfl he39)) ?_
    refine dy [] [] (.iptr (au e39) 10) rfl (al rfl rfl rfl) ?_
    refine dy [] [] (I e39.Within) rfl (aN rfl rfl) ?_
    refine dk 4 [54,53,52,51] [B (e4.Due != (ai (e4.Since+e39.Within))),B (e4.Due != (ai (e4.Since+e39.Within))),B (e4.Due != (ai (e4.Since+e39.Within))),I (ai (e4.Since+e39.Within))] ?_
    obtain⟨y40,hy40,hy401,hy402⟩:=bL h
    have j40:∀u40,y40=.inr u40→Run ep 0 (cW (c_1,s_2,k_3) r) (.code uj::.code pk::[]) (sT 129 [(2,I k_3),(3,.hp 1 0 [] 2 0 0),(4,.hp 2 0 [] 5 0 0),(7,.hp 3 0 [] 4 0 0),(65,B u40)] [⟨0,2,[aa c_1]⟩,⟨0,5,[ae s_2]⟩,⟨0,4,[ah e4]⟩] 4):=by
     intro u40 hu
     replace h:=hy402 u40 hu
     exact rf [2,3,4,7,65] [1,2,3] (j38 _ (aj h) :)
    have r40:∀r',y40=.inl r'→∀st,cW (c_1,s_2,k_3) r' st→(cW (c_1,s_2,k_3) r) st:=fun r' e st hq=>r38 r' (hy401 r' e) st hq
    replace h:=hy40
    refine sp 54 h rfl ?_ ?_<;>intro h
    ·refine dk 11 [65,64,63,62,61,60,59,58,57,56,55] [B true,.und,.und,.und,.und,B true,B true,.und,.und,.und,.und] ?_
     refine de 1009 rfl rfl ?_
     exact rf [2,3,4,7,65] [1,17,129] (j40 _ (aj h) :)
    ·refine dy [129] [] (.hp 129 0 [] 4 0 2) rfl (al rfl rfl rfl) ?_
     refine dy [129] [] (I e4.Due) rfl (aN rfl rfl) ?_
     obtain⟨r41,hr41,h⟩:=bS h
     refine dy [] [] (B r41) rfl (cP (FB hr41)) ?_ (dF rfl rfl rfl rfl (bd (bM rfl) dx) (FB hr41) (.inr rfl) rfl)
     refine dk 3 [60,59,58] [B (!r41),B (!r41),B (!r41)] ?_
     obtain⟨y42,hy42,hy421,hy422⟩:=bL h
     have j42:∀u42,y42=.inr u42→Run ep 0 (cW (c_1,s_2,k_3) r) (.code uj::.code pk::[]) (sT 129 [(2,I k_3),(3,.hp 1 0 [] 2 0 0),(4,.hp 2 0 [] 5 0 0),(7,.hp 3 0 [] 4 0 0),(65,B u42)] [⟨0,2,[aa c_1]⟩,⟨0,5,[ae s_2]⟩,⟨0,4,[ah e4]⟩] 4):=by
      intro u42 hu
      replace h:=hy422 u42 hu
      exact rf [2,3,4,7,65] [1,2,3] (j40 _ (aj h) :)
     have r42:∀r',y42=.inl r'→∀st,cW (c_1,s_2,k_3) r' st→(cW (c_1,s_2,k_3) r) st:=fun r' e st hq=>r40 r' (hy421 r' e) st hq
     replace h:=hy42
     refine sp 60 h rfl ?_ ?_<;>intro h
     ·refine dk 5 [65,64,63,62,61] [B true,.und,.und,.und,.und] ?_
      refine de 1009 rfl rfl ?_
      exact rf [2,3,4,7,65] [1,17,129] (j42 _ (aj h) :)
     ·refine dy [129] [] (.hp 129 0 [] 4 0 3) rfl (al rfl rfl rfl) ?_
      refine dy [129] [] (I e4.Status) rfl (aN rfl rfl) ?_
      obtain⟨r43,hr43,h⟩:=bS h
      refine dy [] [] (B r43) rfl (cP (et hr43)) ?_ (dF rfl rfl rfl rfl (bd (bM rfl) (bd (bM rfl) (bd (bM rfl) dx))) (et hr43) (.inr rfl) rfl)
      refine dk 2 [65,64] [B (!r43),B (!r43)] ?_
      refine de 1009 rfl rfl ?_
      exact rf [2,3,4,7,65] [1,17,129] (j42 _ (aj h) :)
theorem UJ {G:bZ}:bV G 124 CH:=gT 3 0 (aO f9 (aO Uy (aO UI (aO xc bz)))) cd Tryz.func124 (fun a r h=>XP a.1 a.2.1 a.2.2 r h)
def Fv:Int→List V:=oA I
def Fw (r:Bool):V×List V:=(B r,[])
noncomputable def Cj :=bi [false] Fv Fw fun x=>Ci x
theorem ac2 {x_1:Int}{r}(h:Ci x_1=some r):Cj.F (Fv x_1)=some (Fw r):=aH (aI bo) h
noncomputable def ac4 :=aF Tryz.f125
noncomputable def T4 :=cb [(89,fF)]
def ac3 (x:Int)(r:Bool):St→Prop:=QF T4 Tryz.f125 [false] (Fv x) (Fw r)
theorem Xr (x_1:Int)(r:Bool)(h:Ci x_1=some r):br T4 Tryz.f125 [false] 0 (Fv x_1) (Fw r):=by
 show Run _ _ (ac3 x_1 r) [.code ac4] _
 refine rI 5 [(0,I x_1)] [] 1 ?_
 unfold Ci at h
 refine cq 7 [3] [I x_1] 33 ?_
 obtain⟨r2,hr2,h⟩:=bS h
 refine oq 49 (B r2) rfl (cP (et hr2)) ?_
 refine cq 2 [2] [B r2] 65 ?_
 obtain rfl:=sI h
 exact rP [B r2]
theorem T5 {G:bZ}:bV G 125 Cj:=gT 1 0 (aO f9 bz) cd Tryz.func125 (fun a r h=>Xr a r h)
def Fx:(List Int)→List V:=oA (fG I)
def Fy (r:Int):V×List V:=(I r,[])
noncomputable def Ck :=bi [false] Fx Fy fun x=>vj x
theorem ac5 {ay:List Int}{r}(h:vj ay=some r):Ck.F (Fx ay)=some (Fy r):=aH (aI (bW bo)) h
noncomputable def T7 :=aF Tryz.f126
noncomputable def LS :=cb []
def T6 (x:(List Int))(r:Int):St→Prop:=QF LS Tryz.f126 [false] (Fx x) (Fy r)
theorem Oj (ay:List Int):ch LS 0 (T6 ay) (cL (cL (cR (cL (cR (cR T7)))))) 0 (kU ay) (fun u=>(sT 18 [(3,I u)] [] 1)) fun x2=>(sT 18 [(0,.isl false (ay.map I)),(3,I x2.1),(4,I x2.2)] [] 1):=eg (zP ay) fun {Q K} hK self ih x2 y h hr hn=>by
 unfold lD at h
 refine cq 5 [5,6] [I x2.2,.isl false (ay.map I)] 33 ?_
 refine oq 49 (I (len ay)) rfl (bu rfl rfl rfl (bG rfl)) ?_
 refine cq 2 [8] [B (decide (x2.2<(len ay)))] 65 ?_
 refine sq h ?_ ?_<;>intro h
 ·refine aq 1 ?_
  refine cq 6 [11,12,13] [I x2.1,.isl false (ay.map I),I x2.2] 113 ?_
  obtain⟨e3,he3,h⟩:=bS h
  refine oq 129 (.iptr (I e3) 0) rfl (ak rfl rfl rfl (ba rfl rfl rfl rfl he3)) ?_
  refine cq 10 [3,4] [I (ai (x2.1+e3)),I (ai (x2.2+1))] 225 ?_
  refine cZ ?_
  exact rf [0,3,4] [] (ih _ _ h hr hn :)
 ·refine aq 1 ?_
  exact rf [3] [] (hn _ (aj h) :) (hk:=hK)
theorem Xs (ay:List Int)(r:Int)(h:vj ay=some r):br LS Tryz.f126 [false] 0 (Fx ay) (Fy r):=by
 show Run _ _ (T6 ay r) [.code T7] _
 refine rI 18 [(0,.isl false (ay.map I))] [] 1 ?_
 unfold vj at h
 refine cq 14 [3,4] [I (0),I (0)] 49 ?_
 obtain⟨y4,hy4,hy41,hy42⟩:=bJ h
 refine bN rfl ?_
 refine rf [0,3,4] [] (Oj ay rfl (0,0) _ hy4 (fun r' e st hq=>by rw[hy41 r' e] at hq;exact hq) fun u4 hu=>?_)
 replace h:=hy42 u4 hu
 refine cq 5 [2] [I u4] 33 ?_
 obtain rfl:=sI h
 exact rP [I u4]
theorem T8 {G:bZ}:bV G 126 Ck:=gT 1 0 bz cd Tryz.func126 (fun a r h=>Xs a r h)
def Gj:(Contract×State)→List V:=cA aM (oA bH)
def Gk (r:Bool):V×List V:=(B r,[])
noncomputable def CI :=bi [false,false] Gj Gk fun x=>ru x.1 x.2
theorem adk {c_1:Contract}{s_2:State}{r}(h:ru c_1 s_2=some r):CI.F (Gj (c_1,s_2))=some (Gk r):=aH (aJ aU (aI bP)) h
noncomputable def kI :=aF Tryz.f75
noncomputable def ot :=cb [(43,CC),(93,vq),(123,vm),(124,CH),(125,Cj),(126,Ck),(76,rm),(122,Cm)]
def kH (x:Contract×State)(r:Bool):St→Prop:=QF ot Tryz.f75 [false,false] (Gj x) (Gk r)
theorem OB (c_1:Contract)(s_2:State)(r5:(List ac)):ch ot 0 (kH (c_1,s_2)) (cL (cL (cR (cL (cR (cR (cR kI))))))) 0 (uk c_1 s_2 r5) (fun u=>(sT 86 [(2,.hp 1 0 [] 2 0 0),(3,.hp 2 0 [] 5 0 0)] [⟨0,2,[aa c_1]⟩,⟨0,5,[ae s_2]⟩] 3)) fun x6=>(sT 86 [(2,.hp 1 0 [] 2 0 0),(3,.hp 2 0 [] 5 0 0),(5,.hs 3 0 [] 1 0 (r5.map str).length),(6,I x6)] [⟨0,2,[aa c_1]⟩,⟨0,5,[ae s_2]⟩,⟨0,1,r5.map str⟩] 4):=eg (Ae c_1 s_2 r5) fun {Q K} hK self ih x6 y h hr hn=>by
 unfold nR at h
 refine cq 6 [41,43] [I x6,.isl false (s_2.Facts.map str)] 52 ?_
 refine oq 68 (I (len s_2.Facts)) rfl (bu rfl rfl rfl (bG rfl)) ?_
 refine cq 2 [45] [B (decide (x6<(len s_2.Facts)))] 84 ?_
 refine sq h ?_ ?_<;>intro h
 ·refine aq 1 ?_
  refine cq 8 [48,50,51] [.hs 3 0 [] 1 0 (r5.map str).length,.isl false (s_2.Facts.map str),I x6] 148 ?_
  obtain⟨e7,he7,h⟩:=bS h
  refine oq 164 (.iptr (str e7) 0) rfl (ak rfl rfl rfl (ba rfl rfl rfl rfl he7)) ?_
  refine cq 1 [53] [str e7] 180 ?_
  obtain⟨r8,hr8,h⟩:=bS h
  refine oq 196 (B r8) rfl (b8 rfl rfl (cu rfl rfl rfl (bd (JO rfl rfl (eP (f:=str) (g:=str) (xs:=r5) rfl rfl (co ga))) (bd (bM rfl) dx)) (LW hr8) (.inl rfl) ec rfl rfl rfl)) ?_
  refine cq 2 [55] [B (!r8)] 212 ?_
  refine sq h ?_ ?_<;>intro h
  ·refine cq 4 [4] [B false] 228 ?_
   exact cr rfl (hr _ (aj h) _ (qp [B false]))
  ·refine aq 1 ?_
   refine cq 6 [6] [I (ai (x6+1))] 260 ?_
   refine cZ ?_
   exact rf [2,3,5,6] [1,2,3] (ih _ _ h hr hn :)
 ·refine aq 1 ?_
  exact rf [2,3] [1,2] (hn _ (aj h) :) (hk:=hK)
theorem OC (c_1:Contract)(s_2:State):ch ot 0 (kH (c_1,s_2)) (cL (cL (cR (cL (cR (cR (cR (cR kI)))))))) 2 (nS c_1 s_2) (fun u=>(sT 86 [(3,.hp 1 0 [] 5 0 0)] [⟨0,5,[ae s_2]⟩] 2)) fun x10=>(sT 86 [(2,.hp 1 0 [] 2 0 0),(3,.hp 2 0 [] 5 0 0),(7,I x10)] [⟨0,2,[aa c_1]⟩,⟨0,5,[ae s_2]⟩] 3):=eg (Af c_1 s_2) fun {Q K} hK self ih x10 y h hr hn=>by
 unfold lN at h
 refine cq 6 [56,58] [I x10,.isl false (s_2.Duties.map ah)] 51 ?_
 refine oq 67 (I (len s_2.Duties)) rfl (bu rfl rfl rfl (bG rfl)) ?_
 refine cq 2 [60] [B (decide (x10<(len s_2.Duties)))] 83 ?_
 refine sq h ?_ ?_<;>intro h
 ·refine aq 1 ?_
  refine cq 7 [63,64,65] [aa c_1,ae s_2,I x10] 131 ?_
  obtain⟨r11,hr11,h⟩:=bS h
  refine oq 147 (B r11) rfl (cP (adj hr11)) ?_
  refine cq 2 [67] [B (!r11)] 163 ?_
  refine sq h ?_ ?_<;>intro h
  ·refine cq 4 [4] [B false] 179 ?_
   exact cr rfl (hr _ (aj h) _ (qp [B false]))
  ·refine aq 1 ?_
   refine cq 6 [7] [I (ai (x10+1))] 211 ?_
   refine cZ ?_
   exact rf [2,3,7] [1,2] (ih _ _ h hr hn :)
 ·refine aq 1 ?_
  exact rf [3] [2] (hn _ (aj h) :) (hk:=hK)
theorem OD (c_1:Contract)(s_2:State):ch ot 0 (kH (c_1,s_2)) (cL (cL (cR (cL (cR (cR (cR (cR (cR kI))))))))) 4 (ul c_1 s_2) (fun u=>(sT 86 [(3,.hp 1 0 [] 5 0 0)] [⟨0,5,[ae s_2]⟩] 2)) fun x13=>(sT 86 [(3,.hp 1 0 [] 5 0 0),(8,I x13)] [⟨0,5,[ae s_2]⟩] 2):=eg (Ah c_1 s_2) fun {Q K} hK self ih x13 y h hr hn=>by
 unfold nT at h
 refine cq 6 [68,70] [I x13,.isl false (s_2.Balances.map I)] 50 ?_
 refine oq 66 (I (len s_2.Balances)) rfl (bu rfl rfl rfl (bG rfl)) ?_
 refine cq 2 [72] [B (decide (x13<(len s_2.Balances)))] 82 ?_
 refine sq h ?_ ?_<;>intro h
 ·refine aq 1 ?_
  refine cq 7 [76,77] [.isl false (s_2.Balances.map I),I x13] 130 ?_
  obtain⟨e14,he14,h⟩:=bS h
  refine oq 146 (.iptr (I e14) 0) rfl (ak rfl rfl rfl (ba rfl rfl rfl rfl he14)) ?_
  refine cq 1 [79] [I e14] 162 ?_
  obtain⟨r15,hr15,h⟩:=bS h
  refine oq 178 (B r15) rfl (cP (ac2 hr15)) ?_
  refine cq 2 [81] [B (!r15)] 194 ?_
  refine sq h ?_ ?_<;>intro h
  ·refine cq 4 [4] [B false] 210 ?_
   exact cr rfl (hr _ (aj h) _ (qp [B false]))
  ·refine aq 1 ?_
   refine cq 6 [8] [I (ai (x13+1))] 242 ?_
   refine cZ ?_
   exact rf [3,8] [1] (ih _ _ h hr hn :)
 ·refine aq 1 ?_
  exact rf [3] [1] (hn _ (aj h) :) (hk:=hK)
theorem XQ (c_1:Contract)(s_2:State)(r:Bool)(h:ru c_1 s_2=some r):br ot Tryz.f75 [false,false] 0 (Gj (c_1,s_2)) (Gk r):=by
 show Run _ _ (kH (c_1,s_2) r) [.code kI] _
 refine rI 86 [(0,aa c_1),(1,ae s_2)] [] 1 ?_
 unfold ru at h
 refine ck 10 [2,3,9] [] [1,17] [] [.hp 1 0 [] 2 0 0,.hp 17 0 [] 5 0 0,aa c_1] [some ⟨0,2,[aa c_1]⟩,some ⟨0,5,[ae s_2]⟩] 65 (by kernel_rfl) ?_
 obtain⟨r3,hr3,h⟩:=bS h
 refine oq 81 (B r3) rfl (cP (adg hr3)) ?_
 refine cq 2 [12] [B (!r3)] 113 ?_
 obtain⟨y4,hy4,hy41,hy42⟩:=bJ h
 have j4:∀u4,y4=.inr u4→Run ot 0 (kH (c_1,s_2) r) (.code (cR (cL (cR kI)))::.code (cR (cR kI))::[]) (sT 86 [(2,.hp 1 0 [] 2 0 0),(3,.hp 2 0 [] 5 0 0),(38,B u4)] [⟨0,2,[aa c_1]⟩,⟨0,5,[ae s_2]⟩] 3):=by
  intro u4 hu
  replace h:=hy42 u4 hu
  refine sq h ?_ ?_<;>intro h
  ·refine cq 4 [4] [B false] 19 ?_
   obtain rfl:=sI h
   exact rP [B false]
  ·refine aq 1 ?_
   refine cq 3 [39] [aa c_1] 19 ?_
   obtain⟨r5,hr5,h⟩:=bS h
   refine oq 35 (.hs 19 0 [] 1 0 (r5.map str).length) rfl (cP (UC hr5)) ?_
   refine cq 8 [5,6] [.hs 19 0 [] 1 0 (r5.map str).length,I (0)] 67 ?_
   obtain⟨y9,hy9,hy91,hy92⟩:=bJ h
   refine bN rfl ?_
   refine rf [2,3,5,6] [1,2,19] (OB c_1 s_2 r5 rfl 0 _ hy9 (fun r' e st hq=>by rw[hy91 r' e] at hq;exact hq) fun u9 hu=>?_)
   replace h:=hy92 u9 hu
   refine cq 6 [7] [I (0)] 19 ?_
   obtain⟨y12,hy12,hy121,hy122⟩:=bJ h
   refine bN rfl ?_
   refine rf [2,3,7] [1,2] (OC c_1 s_2 rfl 0 _ hy12 (fun r' e st hq=>by rw[hy121 r' e] at hq;exact hq) fun u12 hu=>?_)
   replace h:=hy122 u12 hu
   refine cq 6 [8] [I (0)] 18 ?_
   obtain⟨y16,hy16,hy161,hy162⟩:=bJ h
   refine bN rfl ?_
   refine rf [3,8] [1] (OD c_1 s_2 rfl 0 _ hy16 (fun r' e st hq=>by rw[hy161 r' e] at hq;exact hq) fun u16 hu=>?_)
   replace h:=hy162 u16 hu
   refine cq 4 [83] [.isl false (s_2.Balances.map I)] 34 ?_
   obtain⟨r17,hr17,h⟩:=bS h
   refine oq 50 (I r17) rfl (cP (ac5 hr17)) ?_
   refine cq 3 [4] [B (r17==0)] 82 ?_
   obtain rfl:=sI h
   exact rP [B (r17==0)]
 have r4:∀r',y4=.inl r'→∀st,kH (c_1,s_2) r' st→(kH (c_1,s_2) r) st:=fun r' e st hq=>by rw[hy41 r' e] at hq;exact hq
 replace h:=hy4
 refine sp 12 h rfl ?_ ?_<;>intro h
 ·refine cq 27 [38] [B true] 529 ?_
  exact rf [2,3,38] [1,17] (j4 _ (aj h) :)
 ·refine cq 2 [14] [I s_2.Day] 145 ?_
  obtain⟨r18,hr18,h⟩:=bS h
  refine oy 161 (B r18) rfl (cP (FB hr18)) ?_
  refine cq 3 [18] [B (!r18)] 209 ?_
  obtain⟨y19,hy19,hy191,hy192⟩:=bL h
  have j19:∀u19,y19=.inr u19→Run ot 0 (kH (c_1,s_2) r) (.code (cR (cL (cR kI)))::.code (cR (cR kI))::[]) (sT 86 [(2,.hp 1 0 [] 2 0 0),(3,.hp 2 0 [] 5 0 0),(38,B u19)] [⟨0,2,[aa c_1]⟩,⟨0,5,[ae s_2]⟩] 3):=by
   intro u19 hu
   replace h:=hy192 u19 hu
   exact rf [2,3,38] [1,2] (j4 _ (aj h) :)
  have r19:∀r',y19=.inl r'→∀st,kH (c_1,s_2) r' st→(kH (c_1,s_2) r) st:=fun r' e st hq=>r4 r' (hy191 r' e) st hq
  replace h:=hy19
  refine sp 18 h rfl ?_ ?_<;>intro h
  ·refine cq 21 [38] [B true] 529 ?_
   exact rf [2,3,38] [1,17] (j19 _ (aj h) :)
  ·refine cq 2 [20] [.isl false (s_2.Facts.map str)] 241 ?_
   obtain⟨r20,hr20,h⟩:=bS h
   refine oy 257 (B r20) rfl (cP (ac8 hr20)) ?_
   refine cq 3 [24] [B (!r20)] 305 ?_
   obtain⟨u21,hu21,h⟩:=lJ h
   have j21:Run ot 0 (kH (c_1,s_2) r) (.code (cR (cL (cR kI)))::.code (cR (cR kI))::[]) (sT 86 [(2,.hp 1 0 [] 2 0 0),(3,.hp 2 0 [] 5 0 0),(38,B u21)] [⟨0,2,[aa c_1]⟩,⟨0,5,[ae s_2]⟩] 3):=by
    exact rf [2,3,38] [1,2] (j19 _ (aj h) :)
   replace h:=hu21
   clear hu21
   refine sp 24 h rfl ?_ ?_<;>intro h
   ·refine cq 15 [38] [B true] 529 ?_
    subst h
    exact rf [2,3,38] [1,17] (j21 :)
   ·refine cq 2 [26] [.isl false (s_2.Duties.map ah)] 337 ?_
    refine oy 353 (I (len s_2.Duties)) rfl (bu rfl rfl rfl (bG rfl)) ?_
    refine cq 3 [30] [B (decide ((len s_2.Duties)>24))] 401 ?_
    obtain⟨u22,hu22,h⟩:=lJ h
    have j22:Run ot 0 (kH (c_1,s_2) r) (.code (cR (cL (cR kI)))::.code (cR (cR kI))::[]) (sT 86 [(2,.hp 1 0 [] 2 0 0),(3,.hp 2 0 [] 5 0 0),(38,B u22)] [⟨0,2,[aa c_1]⟩,⟨0,5,[ae s_2]⟩] 3):=by
     subst h
     exact rf [2,3,38] [1,2] (j21 :)
    replace h:=hu22
    clear hu22
    refine sp 30 h rfl ?_ ?_<;>intro h
    ·refine cq 9 [38] [B true] 529 ?_
     subst h
     exact rf [2,3,38] [1,17] (j22 :)
    ·refine cq 2 [32] [.isl false (s_2.Balances.map I)] 433 ?_
     refine oy 449 (I (len s_2.Balances)) rfl (bu rfl rfl rfl (bG rfl)) ?_
     refine cq 2 [35] [.isl false (c_1.Parties.map str)] 481 ?_
     refine oy 497 (I (len c_1.Parties)) rfl (bu rfl rfl rfl (bG rfl)) ?_
     refine cq 3 [38] [B ((len s_2.Balances) != (len c_1.Parties))] 529 ?_
     subst h
     exact rf [2,3,38] [1,17] (j22 :)
theorem UK {G:bZ}:bV G 75 CI:=gT 2 0 (aO UB (aO I8 (aO I5 (aO UJ (aO T5 (aO T8 (aO xc (aO Ub bz)))))))) cd Tryz.func75 (fun a r h=>XQ a.1 a.2 r h)
def Fo:(Contract×State×Int)→List V:=cA aM (cA bH (oA I))
def Fq (r:Bool):V×List V:=(B r,[])
noncomputable def Cf :=bi [false,false,false] Fo Fq fun x=>xa x.1 x.2.1 x.2.2
theorem TZ {c_1:Contract}{s_2:State}{iG:Int}{r}(h:xa c_1 s_2 iG=some r):Cf.F (Fo (c_1,s_2,iG))=some (Fq r):=aH (aJ aU (aJ bP (aI bo))) h
noncomputable def T0 :=aF Tryz.f65
noncomputable def LQ :=cb [(75,CI),(89,fF)]
def Fp (x:Contract×State×Int)(r:Bool):St→Prop:=QF LQ Tryz.f65 [false,false,false] (Fo x) (Fq r)
theorem Xp (c_1:Contract)(s_2:State)(iG:Int)(r:Bool)(h:xa c_1 s_2 iG=some r):br LQ Tryz.f65 [false,false,false] 0 (Fo (c_1,s_2,iG)) (Fq r):=by
 show Run _ _ (Fp (c_1,s_2,iG) r) [.code T0] _
 refine rI 18 [(0,aa c_1),(1,ae s_2),(2,I iG)] [] 1 ?_
 unfold xa at h
 refine ck 10 [3,7,8] [] [1] [] [.hp 1 0 [] 2 0 0,aa c_1,ae s_2] [some ⟨0,2,[aa c_1]⟩] 81 (by kernel_rfl) ?_
 obtain⟨r4,hr4,h⟩:=bS h
 refine oq 97 (B r4) rfl (cP (adk hr4)) ?_
 refine cq 1 [10] [B r4] 113 ?_
 obtain⟨y5,hy5,hy51,hy52⟩:=bJ h
 have j5:∀u5,y5=.inr u5→Run LQ 0 (Fp (c_1,s_2,iG) r) (.code (cR (cR T0))::[]) (sT 18 [(6,B u5)] [] 1):=by
  intro u5 hu
  replace h:=hy52 u5 hu
  obtain rfl:=sI h
  exact rP [B u5]
 have r5:∀r',y5=.inl r'→∀st,Fp (c_1,s_2,iG) r' st→(Fp (c_1,s_2,iG) r) st:=fun r' e st hq=>by rw[hy51 r' e] at hq;exact hq
 replace h:=hy5
 refine sp 10 h rfl ?_ ?_<;>intro h
 ·refine cq 3 [11,13] [I iG,.isl false (c_1.Parties.map str)] 161 ?_
  refine oy 177 (I (len c_1.Parties)) rfl (bu rfl rfl rfl (bG rfl)) ?_
  refine cq 1 [15] [I (ai ((len c_1.Parties) - 1))] 193 ?_
  obtain⟨r6,hr6,h⟩:=bS h
  refine oy 209 (B r6) rfl (cP (et hr6)) ?_
  refine cq 3 [6] [B r6] 241 ?_
  exact rf [6] [] (j5 _ (aj h) :)
 ·refine cq 9 [6] [B false] 241 ?_
  exact rf [6] [] (j5 _ (aj h) :)
theorem T1 {G:bZ}:bV G 65 Cf:=gT 3 0 (aO UK (aO f9 bz)) cd Tryz.func65 (fun a r h=>Xp a.1 a.2.1 a.2.2 r h)
def Fr:(State×(List Int)×Int)→List V:=cA bH (cA (fG I) (oA I))
def Ft (r:(List Int)):V×List V:=(.usl 1 (r.map I),[])
noncomputable def Cg :=bi [false,false,false] Fr Ft fun x=>vi x.1 x.2.1 x.2.2
theorem ac1 {s_1:State}{dD:List Int}{k_3:Int}{r}(h:vi s_1 dD k_3=some r):Cg.F (Fr (s_1,dD,k_3))=some (Ft r):=aH (aJ bP (aJ (bW bo) (aI bo))) h
noncomputable def xb :=aF Tryz.f114
noncomputable def Fs :=cb []
def LR (x:State×(List Int)×Int)(r:(List Int)):St→Prop:=QF Fs Tryz.f114 [false,false,false] (Fr x) (Ft r)
theorem Oi (s_1:State)(dD:List Int)(k_3:Int):ch Fs 0 (LR (s_1,dD,k_3)) (cL (cL (cL (cR (cR xb))))) 0 (ph s_1 dD k_3) (fun u=>(sT 45 [(1,.isl false (dD.map I)),(2,I k_3),(7,I u)] [] 1)) fun x4=>(sT 45 [(1,.isl false (dD.map I)),(2,I k_3),(3,.hp 1 0 [] 5 0 0),(7,I x4)] [⟨0,5,[ae s_1]⟩] 2):=eg (zO s_1 dD k_3) fun {Q K} hK self ih x4 y h hr hn=>by
 unfold lC at h
 refine aq 2 ?_
 refine dK [0,1,3,7,15,7,7,71,231,487,1023,2047,4095,7,8199,7,57351,122887,253959,524287,1048575] rfl (by decide +kernel) ?_
 refine dk 3 [12,11,10] [B (decide (x4>0)),B (decide (x4>0)),I x4] ?_
 obtain⟨y5,hy5,hy51,hy52⟩:=bL h
 have j5:∀u5,y5=.inr u5→Run Fs 0 Q (.code (cR (cL (cL (cL (cL (cR (cR xb)))))))::.code (cR (cL (cL (cL (cR (cR xb))))))::.lp (cL (cL (cL (cR (cR xb)))))::.blk 0::K) (sT 45 [(1,.isl false (dD.map I)),(2,I k_3),(3,.hp 1 0 [] 5 0 0),(7,I x4),(30,B u5)] [⟨0,5,[ae s_1]⟩] 2):=by
  intro u5 hu
  replace h:=hy52 u5 hu
  refine sq h ?_ ?_<;>intro h
  ·refine aq 1 ?_
   refine cq 7 [7] [I (ai (x4 - 1))] 50 ?_
   refine cZ ?_
   exact rf [1,2,3,7] [1] (ih _ _ h hr hn :)
  ·refine aq 1 ?_
   exact rf [1,2,7] [] (hn _ (aj h) :) (hk:=hK)
 have r5:∀r',y5=.inl r'→∀st,LR (s_1,dD,k_3) r' st→Q st:=fun r' e st hq=>hr r' (hy51 r' e) st hq
 replace h:=hy5
 refine sp 12 h rfl ?_ ?_<;>intro h
 ·refine dy [1] [] (.hp 1 0 [] 5 0 2) rfl (al rfl rfl rfl) ?_
  refine dy [1] [] (.isl false (s_1.Duties.map ah)) rfl (aN rfl rfl) ?_
  refine dk 3 [17,16,15] [I (ai (x4 - 1)),I x4,.isl false (dD.map I)] ?_
  obtain⟨e6,he6,h⟩:=bS h
  refine dy [] [] (.iptr (I e6) 0) rfl (ak rfl rfl rfl (ba rfl rfl rfl rfl he6)) ?_
  refine dy [] [] (I e6) rfl (aN rfl rfl) ?_
  obtain⟨e7,he7,h⟩:=bS h
  refine dy [] [] (.iptr (ah e7) 0) rfl (ak rfl rfl rfl (ba rfl rfl rfl rfl he7)) ?_
  refine dy [] [] (.iptr (ah e7) 2) rfl (al rfl rfl rfl) ?_
  refine dy [] [] (I e7.Due) rfl (aN rfl rfl) ?_
  refine dy [1] [] (.hp 1 0 [] 5 0 2) rfl (al rfl rfl rfl) ?_
  refine dy [1] [] (.isl false (s_1.Duties.map ah)) rfl (aN rfl rfl) ?_
  refine dk 1 [25] [I k_3] ?_
  obtain⟨e8,he8,h⟩:=bS h
  refine dy [] [] (.iptr (ah e8) 0) rfl (ak rfl rfl rfl (ba rfl rfl rfl rfl he8)) ?_
  refine dy [] [] (.iptr (ah e8) 2) rfl (al rfl rfl rfl) ?_
  refine dy [] [] (I e8.Due) rfl (aN rfl rfl) ?_
  refine dk 2 [30,29] [B (decide (e7.Due>e8.Due)),B (decide (e7.Due>e8.Due))] ?_
  refine de 338 rfl rfl ?_
  exact rf [1,2,3,7,30] [1] (j5 _ (aj h) :)
 ·refine dk 18 [30,29,28,27,26,25,24,23,22,21,20,19,18,17,16,15,14,13] [B false,.und,.und,.und,.und,.und,.und,.und,.und,.und,.und,.und,.und,.und,.und,.und,.und,.und] ?_
  refine de 338 rfl rfl ?_
  exact rf [1,2,3,7,30] [1] (j5 _ (aj h) :)
theorem Xq (s_1:State)(dD:List Int)(k_3:Int)(r:(List Int))(h:vi s_1 dD k_3=some r):br Fs Tryz.f114 [false,false,false] 0 (Fr (s_1,dD,k_3)) (Ft r):=by
 show Run _ _ (LR (s_1,dD,k_3) r) [.code xb] _
 refine rI 45 [(0,ae s_1),(1,.isl false (dD.map I)),(2,I k_3)] [] 1 ?_
 unfold vi at h
 refine ck 8 [3,8] [] [1] [] [.hp 1 0 [] 5 0 0,.isl false (dD.map I)] [some ⟨0,5,[ae s_1]⟩] 49 (by kernel_rfl) ?_
 refine oq 65 (I (len dD)) rfl (bu rfl rfl rfl (bG rfl)) ?_
 refine cq 4 [7] [I (len dD)] 81 ?_
 obtain⟨y9,hy9,hy91,hy92⟩:=bJ h
 refine bN rfl ?_
 refine rf [1,2,3,7] [1] (Oi s_1 dD k_3 rfl (len dD) _ hy9 (fun r' e st hq=>by rw[hy91 r' e] at hq;exact hq) fun u9 hu=>?_)
 replace h:=hy92 u9 hu
 refine aq 1 ?_
 refine dK [0,0,0,6,15,0,32,127,0,0,768,2047,4095] rfl (by decide +kernel) ?_
 refine dq [] [] (.hs 1 0 [] 1 0 0) rfl (eW rfl (mo (f:=I) (xs:=[]) (z:=I (0)) (es:=[]) (ws:=[]) rfl rfl rfl (by decide) rfl (d9 rfl) rfl)) ?_
 refine dk 2 [35,34] [I u9,.isl false (dD.map I)] ?_
 obtain⟨s10,hs10,h⟩:=bS h
 refine dq [] [] (.isl false (s10.map I)) rfl (il rfl rfl rfl rfl (yo rfl rfl (fun y=>(rh y).1) rfl rfl hs10)) ?_
 obtain⟨a11,ha11,h⟩:=bS h
 refine dq [1] [1] (.hs 65 0 [] 1 0 (a11.map I).length) rfl (ks rfl rfl rfl rfl rfl (oz (path:=[]) (es0:=[]) (f:=I) (xs:=([]:List Int)) (ys:=s10) rfl rfl Nz rfl rfl rfl rfl rfl (by decide) rh ha11 rfl rU)) ?_
 refine dk 1 [38] [I k_3] ?_
 refine dq [] [] (.hs 97 0 [] 1 0 1) rfl (eW rfl (mo (f:=I) (xs:=[]) (z:=I (0)) (es:=[I k_3]) (ws:=[I k_3]) rfl rfl rfl (by decide) rfl (d9 rfl) rfl)) ?_
 obtain⟨a12,ha12,h⟩:=bS h
 refine dq [65,97] [65] (.hs 113 0 [] 1 0 (a12.map I).length) rfl (ks rfl rfl rfl rfl rfl (oz (path:=[]) (f:=I) (xs:=a11) (ys:=[k_3]) rfl rfl (uT rfl rfl rfl) rfl rfl rfl aX rfl (by decide) rh ha12 rfl rU)) ?_ (HN rfl (GY (path:=[]) (f:=I) (xs:=[k_3]) rfl rfl aX adu rfl))
 refine dk 2 [42,41] [I u9,.isl false (dD.map I)] ?_
 obtain⟨s13,hs13,h⟩:=bS h
 refine dq [] [] (.isl false (s13.map I)) rfl (il rfl rfl rfl rfl (yo rfl rfl (fun y=>(rh y).1) rfl rfl hs13)) ?_
 obtain⟨a14,ha14,h⟩:=bS h
 refine dq [113] [113] (.hs 177 0 [] 1 0 (a14.map I).length) rfl (ks rfl rfl rfl rfl rfl (oz (path:=[]) (f:=I) (xs:=a12) (ys:=s13) rfl rfl Nz rfl rfl rfl aX rfl (by decide) rh ha14 rfl rU)) ?_
 refine dk 1 [6] [.hs 177 0 [] 1 0 (a14.map I).length] ?_
 refine de 209 rfl rfl ?_
 obtain rfl:=sI h
 exact cr rfl ⟨_,fin (vs:=[.hs 177 0 [] 1 0 (a14.map I).length]) rfl (gC (gk rfl (dZ rfl rfl)) eI) rfl (dw (dw (dw fD))),fz⟩
theorem T3 {G:bZ}:bV G 114 Cg:=gT 3 0 bz cd Tryz.func114 (fun a r h=>Xq a.1 a.2.1 a.2.2 r h)
def Fl:(Contract×State×Int×Int)→List V:=cA aM (cA bH (cA I (oA I)))
def Fm (r:(List Int)):V×List V:=(.usl 1 (r.map I),[])
noncomputable def Ce :=bi [false,false,false,false] Fl Fm fun x=>Cd x.1 x.2.1 x.2.2.1 x.2.2.2
theorem TW {c_1:Contract}{s_2:State}{bK:Int}{cJ:Int}{r}(h:Cd c_1 s_2 bK cJ=some r):Ce.F (Fl (c_1,s_2,bK,cJ))=some (Fm r):=aH (aJ aU (aJ bP (aJ bo (aI bo)))) h
noncomputable def TX :=aF Tryz.f67
noncomputable abbrev me :=cL (cL (cR (cL (cR (cR TX)))))
noncomputable abbrev qZ :=cR (cR me)
noncomputable abbrev tS :=cR (cR (cL (cL (cR me))))
noncomputable def om :=cb [(114,Cg)]
def LP (x:Contract×State×Int×Int)(r:(List Int)):St→Prop:=QF om Tryz.f67 [false,false,false,false] (Fl x) (Fm r)
theorem Oh (c_1:Contract)(s_2:State)(bK:Int)(cJ:Int):ch om 0 (LP (c_1,s_2,bK,cJ)) me 0 (kT c_1 s_2 bK cJ) (fun u=>(sT 62 [(9,.hs 1 0 [] 1 0 (u.map I).length)] [⟨0,1,u.map I⟩] 2)) fun x5=>(sT 62 [(2,I bK),(3,I cJ),(4,.hp 1 0 [] 2 0 0),(5,.hp 2 0 [] 5 0 0),(9,.hs 3 0 [] 1 0 (x5.2.map I).length),(10,I x5.1)] [⟨0,2,[aa c_1]⟩,⟨0,5,[ae s_2]⟩,⟨0,1,x5.2.map I⟩] 4):=eg (zN c_1 s_2 bK cJ) fun {Q K} hK self ih x5 y h hr hn=>by
 unfold lB at h
 refine cq 6 [13,15] [I x5.1,.isl false (s_2.Duties.map ah)] 52 ?_
 refine oq 68 (I (len s_2.Duties)) rfl (bu rfl rfl rfl (bG rfl)) ?_
 refine cq 2 [17] [B (decide (x5.1<(len s_2.Duties)))] 84 ?_
 refine sq h ?_ ?_<;>intro h
 ·refine aq 1 ?_
  refine aq 3 ?_
  refine dK [0,1,0,4,0,28,60,124,255,511,0,2047] rfl (by decide +kernel) ?_
  refine dq [1] [] (.hp 1 0 [] 2 0 1) rfl (al rfl rfl rfl) ?_
  refine dq [1] [] (.isl false (c_1.Clauses.map ap)) rfl (aN rfl rfl) ?_
  refine dq [2] [] (.hp 2 0 [] 5 0 2) rfl (al rfl rfl rfl) ?_
  refine dq [2] [] (.isl false (s_2.Duties.map ah)) rfl (aN rfl rfl) ?_
  refine dk 1 [24] [I x5.1] ?_
  obtain⟨e6,he6,h⟩:=bS h
  refine dq [] [] (.iptr (ah e6) 0) rfl (ak rfl rfl rfl (ba rfl rfl rfl rfl he6)) ?_
  refine dq [] [] (.iptr (ah e6) 0) rfl (al rfl rfl rfl) ?_
  refine dq [] [] (I e6.Clause) rfl (aN rfl rfl) ?_
  obtain⟨e7,he7,h⟩:=bS h
  refine dq [] [] (.iptr (au e7) 0) rfl (ak rfl rfl rfl (ba rfl rfl rfl rfl he7)) ?_
  refine dq [] [] (au e7) rfl (aN rfl rfl) ?_
  refine dq [] [] (.hp 244 0 [] 12 0 0) rfl (Yp (z:=.agg [str ([]),I (0),I (0),str ([]),I (0),I (0),I (0),str ([]),I (0),.isl true [],I (0),str ([])]) rfl rfl rfl) ?_
  refine dz [244] [244] rfl (fW rfl rfl (fh (path:=[]) (pl:=true) (e':=au e7) (es2':=[au e7]) rfl (dT rfl) rfl rfl rfl aX rfl rfl rfl rfl rfl eG 0 rfl)) ?_
  refine de 276 rfl rfl ?_
  refine cq 5 [31,32] [.isl false (s_2.Duties.map ah),I x5.1] 324 ?_
  obtain⟨e8,he8,h⟩:=bS h
  refine oq 340 (.iptr (ah e8) 0) rfl (ak rfl rfl rfl (ba rfl rfl rfl rfl he8)) ?_
  refine cq 4 [37] [B (e8.Status==1)] 404 ?_
  obtain⟨u9,hu9,h⟩:=lJ h
  have j9:Run om 0 Q (.code tS::.blk 1::.code qZ::.lp me::.blk 0::K) (sT 62 [(2,I bK),(3,I cJ),(4,.hp 1 0 [] 2 0 0),(5,.hp 2 0 [] 5 0 0),(9,.hs 3 0 [] 1 0 (x5.2.map I).length),(10,I x5.1),(56,B u9)] [⟨0,2,[aa c_1]⟩,⟨0,5,[ae s_2]⟩,⟨0,1,x5.2.map I⟩] 4):=by
   obtain⟨y10,hy10,hy101,hy102⟩:=bL h
   have j10:∀u10,y10=.inr u10→Run om 0 Q (.blk 1::.code qZ::.lp me::.blk 0::K) (sT 62 [(2,I bK),(3,I cJ),(4,.hp 1 0 [] 2 0 0),(5,.hp 2 0 [] 5 0 0),(9,.hs 3 0 [] 1 0 (u10.map I).length),(10,I x5.1)] [⟨0,2,[aa c_1]⟩,⟨0,5,[ae s_2]⟩,⟨0,1,u10.map I⟩] 4):=by
    intro u10 hu
    replace h:=hy102 u10 hu
    refine cq 6 [10] [I (ai (x5.1+1))] 52 ?_
    refine cZ ?_
    exact rf [2,3,4,5,9,10] [1,2,3] (ih _ _ h hr hn :)
   have r10:∀r',y10=.inl r'→∀st,LP (c_1,s_2,bK,cJ) r' st→Q st:=fun r' e st hq=>hr r' (hy101 r' e) st hq
   replace h:=hy10
   refine sq h ?_ ?_<;>intro h
   ·refine cq 4 [57,58,59] [ae s_2,.hs 3 0 [] 1 0 (x5.2.map I).length,I x5.1] 52 ?_
    obtain⟨r11,hr11,h⟩:=bS h
    refine oq 68 (.hs 52 0 [] 1 0 (r11.map I).length) rfl (b8 rfl rfl (cu rfl rfl rfl (bd (bM rfl) (bd (JO rfl rfl (eP (f:=I) (g:=I) (xs:=x5.2) rfl rfl (co ml))) (bd (bM rfl) dx))) (ac1 hr11) (.inl (by simp[cX,dM,str,rJ (f:=I) GT])) ec rfl rfl rfl)) ?_
    refine cq 2 [9] [.hs 52 0 [] 1 0 (r11.map I).length] 84 ?_
    exact rf [2,3,4,5,9,10] [1,2,52] (j10 _ (aj h) :)
   ·refine aq 1 ?_
    exact rf [2,3,4,5,9,10] [1,2,3] (j10 _ (aj h) :)
  replace h:=hu9
  clear hu9
  refine sp 37 h rfl ?_ ?_<;>intro h
  ·refine cq 3 [40] [B (decide (bK<0))] 452 ?_
   obtain⟨u12,hu12,h⟩:=lJ h
   have j12:Run om 0 Q (.code tS::.blk 1::.code qZ::.lp me::.blk 0::K) (sT 62 [(2,I bK),(3,I cJ),(4,.hp 1 0 [] 2 0 0),(5,.hp 2 0 [] 5 0 0),(9,.hs 3 0 [] 1 0 (x5.2.map I).length),(10,I x5.1),(56,B u12)] [⟨0,2,[aa c_1]⟩,⟨0,5,[ae s_2]⟩,⟨0,1,x5.2.map I⟩] 4):=by
    subst h
    exact rf [2,3,4,5,9,10,56] [1,2,3] (j9 :)
   replace h:=hu12
   clear hu12
   refine sp 40 h rfl ?_ ?_<;>intro h
   ·refine cq 10 [47,50] [B true,B (decide (cJ<0))] 612 ?_
    obtain⟨u13,hu13,h⟩:=lJ h
    have j13:Run om 0 Q (.code tS::.blk 1::.code qZ::.lp me::.blk 0::K) (sT 62 [(2,I bK),(3,I cJ),(4,.hp 1 0 [] 2 0 0),(5,.hp 2 0 [] 5 0 0),(9,.hs 3 0 [] 1 0 (x5.2.map I).length),(10,I x5.1),(56,B u13)] [⟨0,2,[aa c_1]⟩,⟨0,5,[ae s_2]⟩,⟨0,1,x5.2.map I⟩] 4):=by
     subst h
     exact rf [2,3,4,5,9,10,56] [1,2,3] (j12 :)
    replace h:=hu13
    clear hu13
    refine sp 50 h rfl ?_ ?_<;>intro h
    ·refine cq 7 [56] [B true] 708 ?_
     subst h
     exact rf [2,3,4,5,9,10,56] [1,2,3] (j13 :)
    ·refine cq 7 [56] [B (e7.Other==cJ)] 708 ?_
     subst h
     exact rf [2,3,4,5,9,10,56] [1,2,3] (j13 :)
   ·refine cq 7 [47] [B (e7.Party==bK)] 564 ?_
    obtain⟨u14,hu14,h⟩:=lJ h
    have j14:Run om 0 Q (.code tS::.blk 1::.code qZ::.lp me::.blk 0::K) (sT 62 [(2,I bK),(3,I cJ),(4,.hp 1 0 [] 2 0 0),(5,.hp 2 0 [] 5 0 0),(9,.hs 3 0 [] 1 0 (x5.2.map I).length),(10,I x5.1),(56,B u14)] [⟨0,2,[aa c_1]⟩,⟨0,5,[ae s_2]⟩,⟨0,1,x5.2.map I⟩] 4):=by
     subst h
     exact rf [2,3,4,5,9,10,56] [1,2,3] (j12 :)
    replace h:=hu14
    clear hu14
    refine sp 47 h rfl ?_ ?_<;>intro h
    ·refine cq 3 [50] [B (decide (cJ<0))] 612 ?_
     obtain⟨u15,hu15,h⟩:=lJ h
     have j15:Run om 0 Q (.code tS::.blk 1::.code qZ::.lp me::.blk 0::K) (sT 62 [(2,I bK),(3,I cJ),(4,.hp 1 0 [] 2 0 0),(5,.hp 2 0 [] 5 0 0),(9,.hs 3 0 [] 1 0 (x5.2.map I).length),(10,I x5.1),(56,B u15)] [⟨0,2,[aa c_1]⟩,⟨0,5,[ae s_2]⟩,⟨0,1,x5.2.map I⟩] 4):=by
      subst h
      exact rf [2,3,4,5,9,10,56] [1,2,3] (j14 :)
     replace h:=hu15
     clear hu15
     refine sp 50 h rfl ?_ ?_<;>intro h
     ·refine cq 7 [56] [B true] 708 ?_
      subst h
      exact rf [2,3,4,5,9,10,56] [1,2,3] (j15 :)
     ·refine cq 7 [56] [B (e7.Other==cJ)] 708 ?_
      subst h
      exact rf [2,3,4,5,9,10,56] [1,2,3] (j15 :)
    ·refine cq 10 [56] [B false] 708 ?_
     subst h
     exact rf [2,3,4,5,9,10,56] [1,2,3] (j14 :)
  ·refine cq 20 [56] [B false] 708 ?_
   subst h
   exact rf [2,3,4,5,9,10,56] [1,2,3] (j9 :)
 ·refine aq 1 ?_
  exact rf [9] [3] (hn _ (aj h) :) (hk:=hK)
theorem Xo (c_1:Contract)(s_2:State)(bK:Int)(cJ:Int)(r:(List Int))(h:Cd c_1 s_2 bK cJ=some r):br om Tryz.f67 [false,false,false,false] 0 (Fl (c_1,s_2,bK,cJ)) (Fm r):=by
 show Run _ _ (LP (c_1,s_2,bK,cJ) r) [.code TX] _
 refine rI 62 [(0,aa c_1),(1,ae s_2),(2,I bK),(3,I cJ)] [] 1 ?_
 unfold Cd at h
 refine ck 8 [4,5] [] [1,17] [] [.hp 1 0 [] 2 0 0,.hp 17 0 [] 5 0 0] [some ⟨0,2,[aa c_1]⟩,some ⟨0,5,[ae s_2]⟩] 49 (by kernel_rfl) ?_
 refine oq 65 (.hs 49 0 [] 1 0 0) rfl (eW rfl (mo (f:=I) (xs:=[]) (z:=I (0)) (es:=[]) (ws:=[]) rfl rfl rfl (by decide) rfl (d9 rfl) rfl)) ?_
 refine cq 8 [9,10] [.hs 49 0 [] 1 0 0,I (0)] 97 ?_
 obtain⟨y16,hy16,hy161,hy162⟩:=bJ h
 refine bN rfl ?_
 refine rf [2,3,4,5,9,10] [1,17,49] (Oh c_1 s_2 bK cJ rfl (0,[]) _ hy16 (fun r' e st hq=>by rw[hy161 r' e] at hq;exact hq) fun u16 hu=>?_)
 replace h:=hy162 u16 hu
 refine cq 5 [8] [.hs 1 0 [] 1 0 (u16.map I).length] 34 ?_
 obtain rfl:=sI h
 exact cr rfl ⟨_,fin (vs:=[.hs 1 0 [] 1 0 (u16.map I).length]) rfl (gC (gk rfl (dZ rfl rfl)) eI) rfl (dw (dw (dw (dw fD)))),fz⟩
theorem TY {G:bZ}:bV G 67 Ce:=gT 4 0 (aO T3 bz) cd Tryz.func67 (fun a r h=>Xo a.1 a.2.1 a.2.2.1 a.2.2.2 r h)
def Fi:(Contract×State×(List Int))→List V:=cA aM (cA bH (oA (fG I)))
def Fj (r:Int):V×List V:=(I r,[])
noncomputable def Cc :=bi [false,false,false] Fi Fj fun x=>Cb x.1 x.2.1 x.2.2
theorem TR {c_1:Contract}{s_2:State}{ez:List Int}{r}(h:Cb c_1 s_2 ez=some r):Cc.F (Fi (c_1,s_2,ez))=some (Fj r):=aH (aJ aU (aJ bP (aI (bW bo)))) h
noncomputable def TU :=aF Tryz.f66
noncomputable def LO :=cb []
def TS (x:Contract×State×(List Int))(r:Int):St→Prop:=QF LO Tryz.f66 [false,false,false] (Fi x) (Fj r)
theorem Og (c_1:Contract)(s_2:State)(ez:List Int):ch LO 0 (TS (c_1,s_2,ez)) (cL (cL (cR (cL (cR (cR TU)))))) 0 (kS c_1 s_2 ez) (fun u=>(sT 32 [(7,I u)] [] 1)) fun x4=>(sT 32 [(2,.isl false (ez.map I)),(3,.hp 1 0 [] 2 0 0),(4,.hp 2 0 [] 5 0 0),(7,I x4.1),(8,I x4.2)] [⟨0,2,[aa c_1]⟩,⟨0,5,[ae s_2]⟩] 3):=eg (zM c_1 s_2 ez) fun {Q K} hK self ih x4 y h hr hn=>by
 unfold lA at h
 refine cq 5 [9,10] [I x4.2,.isl false (ez.map I)] 35 ?_
 refine oq 51 (I (len ez)) rfl (bu rfl rfl rfl (bG rfl)) ?_
 refine cq 2 [12] [B (decide (x4.2<(len ez)))] 67 ?_
 refine sq h ?_ ?_<;>intro h
 ·refine aq 1 ?_
  refine aq 2 ?_
  refine dK [0,0,2,0,8,0,0,96,224,504,1016,2040,4094,8190,16382,32767,65535] rfl (by decide +kernel) ?_
  refine dk 1 [15] [I x4.1] ?_
  refine dq [1] [] (.hp 1 0 [] 2 0 1) rfl (al rfl rfl rfl) ?_
  refine dq [1] [] (.isl false (c_1.Clauses.map ap)) rfl (aN rfl rfl) ?_
  refine dq [2] [] (.hp 2 0 [] 5 0 2) rfl (al rfl rfl rfl) ?_
  refine dq [2] [] (.isl false (s_2.Duties.map ah)) rfl (aN rfl rfl) ?_
  refine dk 2 [21,20] [I x4.2,.isl false (ez.map I)] ?_
  obtain⟨e5,he5,h⟩:=bS h
  refine dq [] [] (.iptr (I e5) 0) rfl (ak rfl rfl rfl (ba rfl rfl rfl rfl he5)) ?_
  refine dq [] [] (I e5) rfl (aN rfl rfl) ?_
  obtain⟨e6,he6,h⟩:=bS h
  refine dq [] [] (.iptr (ah e6) 0) rfl (ak rfl rfl rfl (ba rfl rfl rfl rfl he6)) ?_
  refine dq [] [] (.iptr (ah e6) 0) rfl (al rfl rfl rfl) ?_
  refine dq [] [] (I e6.Clause) rfl (aN rfl rfl) ?_
  obtain⟨e7,he7,h⟩:=bS h
  refine dq [] [] (.iptr (au e7) 0) rfl (ak rfl rfl rfl (ba rfl rfl rfl rfl he7)) ?_
  refine dq [] [] (.iptr (au e7) 5) rfl (al rfl rfl rfl) ?_
  refine dq [] [] (I e7.Amount) rfl (aN rfl rfl) ?_
  refine dk 2 [7,30] [I (ai (x4.1+e7.Amount)),I (ai (x4.1+e7.Amount))] ?_
  refine de 339 rfl rfl ?_
  refine cq 6 [8] [I (ai (x4.2+1))] 387 ?_
  refine cZ ?_
  exact rf [2,3,4,7,8] [1,2] (ih _ _ h hr hn :)
 ·refine aq 1 ?_
  exact rf [7] [] (hn _ (aj h) :) (hk:=hK)
theorem Xn (c_1:Contract)(s_2:State)(ez:List Int)(r:Int)(h:Cb c_1 s_2 ez=some r):br LO Tryz.f66 [false,false,false] 0 (Fi (c_1,s_2,ez)) (Fj r):=by
 show Run _ _ (TS (c_1,s_2,ez) r) [.code TU] _
 refine rI 32 [(0,aa c_1),(1,ae s_2),(2,.isl false (ez.map I))] [] 1 ?_
 unfold Cb at h
 refine ck 16 [3,4,7,8] [] [1,17] [] [.hp 1 0 [] 2 0 0,.hp 17 0 [] 5 0 0,I (0),I (0)] [some ⟨0,2,[aa c_1]⟩,some ⟨0,5,[ae s_2]⟩] 81 (by kernel_rfl) ?_
 obtain⟨y8,hy8,hy81,hy82⟩:=bJ h
 refine bN rfl ?_
 refine rf [2,3,4,7,8] [1,17] (Og c_1 s_2 ez rfl (0,0) _ hy8 (fun r' e st hq=>by rw[hy81 r' e] at hq;exact hq) fun u8 hu=>?_)
 replace h:=hy82 u8 hu
 refine cq 5 [6] [I u8] 33 ?_
 obtain rfl:=sI h
 exact rP [I u8]
theorem TV {G:bZ}:bV G 66 Cc:=gT 3 0 bz cd Tryz.func66 (fun a r h=>Xn a.1 a.2.1 a.2.2 r h)
def Ff:(Contract×State×Int×Int)→List V:=cA aM (cA bH (cA I (oA I)))
def Fh (r:Int×Bool):V×List V:=(.tup [I r.1,B r.2],[])
noncomputable def Ca :=bi [false,false,false,false] Ff Fh fun x=>B9 x.1 x.2.1 x.2.2.1 x.2.2.2
theorem TP {c_1:Contract}{s_2:State}{bK:Int}{cJ:Int}{r}(h:B9 c_1 s_2 bK cJ=some r):Ca.F (Ff (c_1,s_2,bK,cJ))=some (Fh r):=aH (aJ aU (aJ bP (aJ bo (aI bo)))) h
noncomputable def LN :=aF Tryz.f28
noncomputable def LM :=cb [(65,Cf),(67,Ce),(66,Cc)]
def Fg (x:Contract×State×Int×Int)(r:Int×Bool):St→Prop:=QF LM Tryz.f28 [false,false,false,false] (Ff x) (Fh r)
theorem Xm (c_1:Contract)(s_2:State)(bK:Int)(cJ:Int)(r:Int×Bool)(h:B9 c_1 s_2 bK cJ=some r):br LM Tryz.f28 [false,false,false,false] 0 (Ff (c_1,s_2,bK,cJ)) (Fh r):=by
 show Run _ _ (Fg (c_1,s_2,bK,cJ) r) [.code LN] _
 refine rI 30 [(0,aa c_1),(1,ae s_2),(2,I bK),(3,I cJ)] [] 1 ?_
 unfold B9 at h
 refine ck 13 [4,5,10,11,12] [] [1,17] [] [.hp 1 0 [] 2 0 0,.hp 17 0 [] 5 0 0,aa c_1,ae s_2,I bK] [some ⟨0,2,[aa c_1]⟩,some ⟨0,5,[ae s_2]⟩] 113 (by kernel_rfl) ?_
 obtain⟨r5,hr5,h⟩:=bS h
 refine oq 129 (B r5) rfl (cP (TZ hr5)) ?_
 refine cq 2 [15] [B (!r5)] 161 ?_
 obtain⟨y6,hy6,hy61,hy62⟩:=bJ h
 have j6:∀u6,y6=.inr u6→Run LM 0 (Fg (c_1,s_2,bK,cJ) r) (.code (cR (cL (cR LN)))::.code (cR (cR LN))::[]) (sT 30 [(2,I bK),(3,I cJ),(4,.hp 1 0 [] 2 0 0),(5,.hp 2 0 [] 5 0 0),(21,B u6)] [⟨0,2,[aa c_1]⟩,⟨0,5,[ae s_2]⟩] 3):=by
  intro u6 hu
  replace h:=hy62 u6 hu
  refine sq h ?_ ?_<;>intro h
  ·refine cq 5 [8,9] [I (0),B false] 35 ?_
   obtain rfl:=sI h
   exact rP [I (0),B false]
  ·refine aq 1 ?_
   refine aq 1 ?_
   refine dK [0,0,0,0,0,0,60,127,255,511] rfl (by decide +kernel) ?_
   refine dq [1] [] (aa c_1) rfl (aN rfl rfl) ?_
   refine dq [2] [] (ae s_2) rfl (aN rfl rfl) ?_
   refine dq [1] [] (aa c_1) rfl (aN rfl rfl) ?_
   refine dq [2] [] (ae s_2) rfl (aN rfl rfl) ?_
   refine dk 2 [27,26] [I cJ,I bK] ?_
   obtain⟨r7,hr7,h⟩:=bS h
   refine dq [] [] (.hs 99 0 [] 1 0 (r7.map I).length) rfl (cP (TW hr7)) ?_ (dF rfl rfl rfl rfl (bd (bM rfl) (bd (bM rfl) (bd (bM rfl) (bd (bM rfl) dx)))) (TW hr7) (.inr rfl) rfl)
   obtain⟨r8,hr8,h⟩:=bS h
   refine dq [99] [] (I r8) rfl (b8 rfl rfl (cu rfl rfl rfl (bd (bM rfl) (bd (bM rfl) (bd (JO rfl rfl (eP (f:=I) (g:=I) (xs:=r7) rfl rfl (co ml))) dx))) (TR hr8) (.inl rfl) ec rfl rfl rfl)) ?_ (dF rfl rfl rfl rfl (bd (bM rfl) (bd (bM rfl) (bd (JO rfl rfl (eP (f:=I) (g:=I) (xs:=r7) rfl rfl (co ml))) dx))) (TR hr8) (.inl rfl) rfl)
   refine dk 2 [9,8] [B true,I r8] ?_
   refine de 163 rfl rfl ?_
   obtain rfl:=sI h
   exact rP [I r8,B true]
 have r6:∀r',y6=.inl r'→∀st,Fg (c_1,s_2,bK,cJ) r' st→(Fg (c_1,s_2,bK,cJ) r) st:=fun r' e st hq=>by rw[hy61 r' e] at hq;exact hq
 replace h:=hy6
 refine sp 15 h rfl ?_ ?_<;>intro h
 ·refine cq 7 [21] [B true] 257 ?_
  exact rf [2,3,4,5,21] [1,17] (j6 _ (aj h) :)
 ·refine cq 3 [16,17,18] [aa c_1,ae s_2,I cJ] 209 ?_
  obtain⟨r9,hr9,h⟩:=bS h
  refine oy 225 (B r9) rfl (cP (TZ hr9)) ?_
  refine cq 3 [21] [B (!r9)] 257 ?_
  exact rf [2,3,4,5,21] [1,17] (j6 _ (aj h) :)
theorem TQ {G:bZ}:bV G 28 Ca:=gT 4 0 (aO T1 (aO TY (aO TV bz))) cd Tryz.func28 (fun a r h=>Xm a.1 a.2.1 a.2.2.1 a.2.2.2 r h)
def Dt:(Int×Int×Int)→List V:=cA I (cA I (oA I))
def Du (r:Bool):V×List V:=(B r,[])
noncomputable def iJ :=bi [false,false,false] Dt Du fun x=>i9 x.1 x.2.1 x.2.2
theorem iI {n_1:Int}{oL:Int}{lT:Int}{r}(h:i9 n_1 oL lT=some r):iJ.F (Dt (n_1,oL,lT))=some (Du r):=aH (aJ bo (aJ bo (aI bo))) h
noncomputable def RH :=aF Tryz.f99
noncomputable def K7 :=cb []
def RG (x:Int×Int×Int)(r:Bool):St→Prop:=QF K7 Tryz.f99 [false,false,false] (Dt x) (Du r)
theorem Wo (n_1:Int)(oL:Int)(lT:Int)(r:Bool)(h:i9 n_1 oL lT=some r):br K7 Tryz.f99 [false,false,false] 0 (Dt (n_1,oL,lT)) (Du r):=by
 show Run _ _ (RG (n_1,oL,lT) r) [.code RH] _
 refine rI 15 [(0,I n_1),(1,I oL),(2,I lT)] [] 1 ?_
 unfold i9 at h
 refine cq 10 [10] [B (decide (n_1≥oL))] 81 ?_
 obtain⟨u4,hu4,h⟩:=lJ h
 have j4:Run K7 0 (RG (n_1,oL,lT) r) (.code (cR (cR RH))::[]) (sT 15 [(6,B u4)] [] 1):=by
  obtain rfl:=sI h
  exact rP [B u4]
 replace h:=hu4
 clear hu4
 refine sp 10 h rfl ?_ ?_<;>intro h
 ·refine cq 6 [6] [B (decide (n_1≤lT))] 161 ?_
  subst h
  exact rf [6] [] (j4 :)
 ·refine cq 6 [6] [B false] 161 ?_
  subst h
  exact rf [6] [] (j4 :)
theorem jd {G:bZ}:bV G 99 iJ:=gT 3 0 bz cd Tryz.func99 (fun a r h=>Wo a.1 a.2.1 a.2.2 r h)
noncomputable def kG:Ent:=⟨[false,false],vG (pM str) (pM (V.int .u8)) fun s c=>some (I ((Lib.countByte s c.toNat.toUInt8:Nat):Int),[])⟩
theorem IZ {s:ac}{c r:Int}(h:yu s c=some r):kG.F [str s,.int .u8 c]=some (I r,[]):=by
 cases h
 simp only[kG,vG,G4 bT,G4 Wb,Option.bind_some]
theorem I0:Extern.findNext Tryz.f199=none:=by kernel_rfl
theorem I1:Extern.find Tryz.f199=some Extern.BytealgCount.count:=by kernel_rfl
theorem zb {G:bZ}:bV G 199 kG:=Pt (g:=fun s c=>((Lib.countByte s c.toNat.toUInt8:Nat):Int)) Tryz.func199 rfl (by decide) I0 I1 fun s c w=>Lib.run_countString s c w
noncomputable def iz:Ent:=⟨[false,false],vG (pM str) (pM (V.int .u8)) fun s c=>some (I (Lib.indexByte s c.toNat.toUInt8),[])⟩
theorem yw {s:ac}{c r:Int}(h:rX s c=some r):iz.F [str s,.int .u8 c]=some (I r,[]):=by
 cases h
 simp only[iz,vG,G4 bT,G4 Wb,Option.bind_some]
theorem yx:Extern.findNext Tryz.f232=none:=by kernel_rfl
theorem yy:Extern.find Tryz.f232=some Extern.BytealgIndexByte.indexByte:=by kernel_rfl
theorem uV {G:bZ}:bV G 232 iz:=Pt (g:=fun s c=>Lib.indexByte s c.toNat.toUInt8) Tryz.func232 rfl (by decide) yx yy fun s c w=>Lib.run_indexByteString s c w
def Dx:(ac×Int)→List V:=cA str (oA (V.int .u8))
def Dy (r:Int):V×List V:=(I r,[])
noncomputable def AZ :=bi [false,false] Dx Dy fun x=>Lb x.1 x.2
theorem abB {s_1:ac}{c_2:Int}{r}(h:Lb s_1 c_2=some r):AZ.F (Dx (s_1,c_2))=some (Dy r):=aH (aJ bT (aI (ND (k:=.u8)))) h
noncomputable def abD :=aF Tryz.f218
noncomputable def RK :=cb [(232,iz)]
def abC (x:ac×Int)(r:Int):St→Prop:=QF RK Tryz.f218 [false,false] (Dx x) (Dy r)
theorem Wq (s_1:ac)(c_2:Int)(r:Int)(h:Lb s_1 c_2=some r):br RK Tryz.f218 [false,false] 0 (Dx (s_1,c_2)) (Dy r):=by
 show Run _ _ (abC (s_1,c_2) r) [.code abD] _
 refine rI 8 [(0,str s_1),(1,.int .u8 c_2)] [] 1 ?_
 unfold Lb at h
 refine cq 8 [5,6] [str s_1,.int .u8 c_2] 49 ?_
 obtain⟨r3,hr3,h⟩:=bS h
 refine oq 65 (I r3) rfl (cP (yw hr3)) ?_
 refine cq 2 [4] [I r3] 81 ?_
 obtain rfl:=sI h
 exact rP [I r3]
theorem RL {G:bZ}:bV G 218 AZ:=gT 2 0 (aO uV bz) cd Tryz.func218 (fun a r h=>Wq a.1 a.2 r h)
def Dv:(ac×ac)→List V:=cA str (oA str)
def Dw (r:Int):V×List V:=(I r,[])
noncomputable def AY :=bi [false,false] Dv Dw fun x=>K8 x.1 x.2
theorem abA {s_1:ac}{bn:ac}{r}(h:K8 s_1 bn=some r):AY.F (Dv (s_1,bn))=some (Dw r):=aH (aJ bT (aI bT)) h
noncomputable def La :=aF Tryz.f200
noncomputable def K9 :=cb [(218,AZ)]
def RI (x:ac×ac)(r:Int):St→Prop:=QF K9 Tryz.f200 [false,false] (Dv x) (Dw r)
theorem Wp (s_1:ac)(bn:ac)(r:Int)(h:K8 s_1 bn=some r):br K9 Tryz.f200 [false,false] 0 (Dv (s_1,bn)) (Dw r):=by
 show Run _ _ (RI (s_1,bn) r) [.code La] _
 refine rI 143 [(0,str s_1),(1,str bn)] [] 1 ?_
 unfold K8 at h
 refine cq 17 [5,19] [I (len bn),B ((len bn)==0)] 113 ?_
 obtain⟨u3,hu3,h⟩:=lJ h
 have j3:Run K9 0 (RI (s_1,bn) r) (.code (cR (cL (cL (cR (cR La)))))::.blk 0::.code (cR (cR (cR La)))::[]) (sT 143 [(0,str s_1),(1,str bn),(5,I (len bn)),(16,B u3)] [] 1):=by
  refine sq h ?_ ?_<;>intro h
  ·refine cq 4 [4] [I (0)] 17 ?_
   obtain rfl:=sI h
   exact rP [I (0)]
  ·refine cq 6 [24] [B ((len bn)==1)] 49 ?_
   refine sq h ?_ ?_<;>intro h
   ·refine cq 4 [27,28] [str s_1,str bn] 81 ?_
    obtain⟨c4,hc4,h⟩:=bS h
    refine oq 97 (.int .u8 (c4.toNat:Int)) rfl (nY rfl rfl (sw rfl rfl hc4)) ?_
    obtain⟨r5,hr5,h⟩:=bS h
    refine oq 113 (I r5) rfl (cP (abB hr5)) ?_
    refine cq 2 [4] [I r5] 129 ?_
    obtain rfl:=sI h
    exact rP [I r5]
   ·refine cq 8 [31] [B (decide ((len bn)≥(len s_1)))] 129 ?_
    refine sq h ?_ ?_<;>intro h
    ·refine cq 4 [4] [I (-1)] 145 ?_
     obtain rfl:=sI h
     exact rP [I (-1)]
    ·cases h
 replace h:=hu3
 clear hu3
 refine sp 19 h rfl ?_ ?_<;>intro h
 ·refine cq 6 [16] [B true] 193 ?_
  subst h
  exact rf [0,1,5,16] [] (j3 :)
 ·refine cq 6 [16] [B (bn==s_1)] 193 ?_
  subst h
  exact rf [0,1,5,16] [] (j3 :)
theorem RJ {G:bZ}:bV G 200 AY:=gT 2 0 (aO RL bz) cd Tryz.func200 (fun a r h=>Wp a.1 a.2 r h)
def Gp:(ac×ac)→List V:=cA str (oA str)
def Gq (r:Int):V×List V:=(I r,[])
noncomputable def vr :=bi [false,false] Gp Gq fun x=>Ie x.1 x.2
theorem UQ {s_1:ac}{bn:ac}{r}(h:Ie s_1 bn=some r):vr.F (Gp (s_1,bn))=some (Gq r):=aH (aJ bT (aI bT)) h
noncomputable def adn :=aF Tryz.f188
noncomputable def UO :=cb [(200,AY)]
def adm (x:ac×ac)(r:Int):St→Prop:=QF UO Tryz.f188 [false,false] (Gp x) (Gq r)
theorem XS (s_1:ac)(bn:ac)(r:Int)(h:Ie s_1 bn=some r):br UO Tryz.f188 [false,false] 0 (Gp (s_1,bn)) (Gq r):=by
 show Run _ _ (adm (s_1,bn) r) [.code adn] _
 refine rI 8 [(0,str s_1),(1,str bn)] [] 1 ?_
 unfold Ie at h
 refine cq 8 [5,6] [str s_1,str bn] 49 ?_
 obtain⟨r3,hr3,h⟩:=bS h
 refine oq 65 (I r3) rfl (cP (abA hr3)) ?_
 refine cq 2 [4] [I r3] 81 ?_
 obtain rfl:=sI h
 exact rP [I r3]
theorem I9 {G:bZ}:bV G 188 vr:=gT 2 0 (aO RJ bz) cd Tryz.func188 (fun a r h=>XS a.1 a.2 r h)
def Gm:(ac×ac)→List V:=cA str (oA str)
def Gn (r:Int):V×List V:=(I r,[])
noncomputable def CJ :=bi [false,false] Gm Gn fun x=>Mb x.1 x.2
theorem adl {s_1:ac}{bn:ac}{r}(h:Mb s_1 bn=some r):CJ.F (Gm (s_1,bn))=some (Gn r):=aH (aJ bT (aI bT)) h
noncomputable def UM :=aF Tryz.f187
noncomputable def Mc :=cb [(199,kG),(188,vr)]
def UL (x:ac×ac)(r:Int):St→Prop:=QF Mc Tryz.f187 [false,false] (Gm x) (Gn r)
theorem OG (s_1:ac)(bn:ac):ch Mc 0 (UL (s_1,bn)) (cL (cL (cR (cR (cR (cR UM)))))) 0 (Pe s_1 bn) (fun u=>(sT 34 [] [] 1)) fun x5=>(sT 34 [(0,str x5.1),(1,str bn),(5,I x5.2)] [] 1):=eg (OE s_1 bn) fun {Q K} hK self ih x5 y h hr hn=>by
 unfold sf at h
 refine cq 5 [20,21] [str x5.1,str bn] 33 ?_
 obtain⟨r6,hr6,h⟩:=bS h
 refine oq 49 (I r6) rfl (cP (UQ hr6)) ?_
 refine cq 8 [6,24] [I r6,B (r6==(-1))] 97 ?_
 refine sq h ?_ ?_<;>intro h
 ·refine cq 5 [4] [I x5.2] 129 ?_
  exact cr rfl (hr _ (aj h) _ (qp [I x5.2]))
 ·refine aq 1 ?_
  refine cq 12 [5,28,32] [I (ai (x5.2+1)),str x5.1,I (ai (r6+(len bn)))] 225 ?_
  obtain⟨s7,hs7,h⟩:=bS h
  refine oq 241 (str s7) rfl (il rfl rfl rfl rfl (Nv rfl rfl rfl hs7)) ?_
  refine cq 3 [0] [str s7] 257 ?_
  refine cZ ?_
  exact rf [0,1,5] [] (ih _ _ h hr hn :)
theorem XR (s_1:ac)(bn:ac)(r:Int)(h:Mb s_1 bn=some r):br Mc Tryz.f187 [false,false] 0 (Gm (s_1,bn)) (Gn r):=by
 show Run _ _ (UL (s_1,bn) r) [.code UM] _
 refine rI 34 [(0,str s_1),(1,str bn)] [] 1 ?_
 unfold Mb at h
 refine cq 11 [9] [B ((len bn)==0)] 65 ?_
 refine sq h ?_ ?_<;>intro h
 ·cases h
 ·refine aq 1 ?_
  refine cq 7 [15] [B ((len bn)==1)] 113 ?_
  refine sq h ?_ ?_<;>intro h
  ·refine cq 4 [16,17] [str s_1,str bn] 145 ?_
   obtain⟨c3,hc3,h⟩:=bS h
   refine oq 161 (.int .u8 (c3.toNat:Int)) rfl (nY rfl rfl (sw rfl rfl hc3)) ?_
   obtain⟨r4,hr4,h⟩:=bS h
   refine oq 177 (I r4) rfl (cP (IZ hr4)) ?_
   refine cq 2 [4] [I r4] 193 ?_
   obtain rfl:=sI h
   exact rP [I r4]
  ·refine aq 1 ?_
   refine cq 5 [5] [I (0)] 129 ?_
   obtain⟨y8,hy8,hy81,hy82⟩:=bJ h
   refine bN rfl ?_
   refine rf [0,1,5] [] (OG s_1 bn rfl (s_1,0) _ hy8 (fun r' e st hq=>by rw[hy81 r' e] at hq;exact hq) fun u8 hu=>?_)
   replace h:=hy82 u8 hu
   cases h
theorem UN {G:bZ}:bV G 187 CJ:=gT 2 0 (aO zb (aO I9 bz)) cd Tryz.func187 (fun a r h=>XR a.1 a.2 r h)
def Gt:(ac×ac×Int×Int)→List V:=cA str (cA str (cA I (oA I)))
def Gv (r:(List ac)):V×List V:=(.usl 1 (r.map str),[])
noncomputable def CM :=bi [false,false,false,false] Gt Gv fun x=>Md x.1 x.2.1 x.2.2.1 x.2.2.2
theorem adr {s_1:ac}{dX:ac}{dG:Int}{n_4:Int}{r}(h:Md s_1 dX dG n_4=some r):CM.F (Gt (s_1,dX,dG,n_4))=some (Gv r):=aH (aJ bT (aJ bT (aJ bo (aI bo)))) h
noncomputable def Me :=aF Tryz.f166
noncomputable abbrev Z9 :=cL (cL (cL (cR (cR (cR (cR (cR (cR (cR (cR Me))))))))))
noncomputable def Gu :=cb [(188,vr),(187,CJ)]
def xw (x:ac×ac×Int×Int)(r:(List ac)):St→Prop:=QF Gu Tryz.f166 [false,false,false,false] (Gt x) (Gv r)
theorem OH (s_1:ac)(dX:ac)(dG:Int)(n_4:Int)(u5:Int):ch Gu 0 (xw (s_1,dX,dG,n_4)) Z9 0 (yE s_1 dX dG n_4 u5) (fun u=>(sT 66 [(0,str u.1),(9,.hs 1 0 [] 1 0 (u.2.2.map str).length),(10,I u.2.1)] [⟨0,1,u.2.2.map str⟩] 2)) fun x7=>(sT 66 [(0,str x7.1),(1,str dX),(2,I dG),(3,I (ai ((if (ai ((len s_1)+1))<u5 then (ai ((len s_1)+1)) else u5) - 1))),(9,.hs 1 0 [] 1 0 (x7.2.2.map str).length),(10,I x7.2.1)] [⟨0,1,x7.2.2.map str⟩] 2):=eg (Ai s_1 dX dG n_4 u5) fun {Q K} hK self ih x7 y h hr hn=>by
 unfold sh at h
 refine cq 7 [36] [B (decide (x7.2.1<(ai ((if (ai ((len s_1)+1))<u5 then (ai ((len s_1)+1)) else u5) - 1))))] 50 ?_
 refine sq h ?_ ?_<;>intro h
 ·refine aq 1 ?_
  refine cq 5 [37,38] [str x7.1,str dX] 82 ?_
  obtain⟨r8,hr8,h⟩:=bS h
  refine oq 98 (I r8) rfl (cP (UQ hr8)) ?_
  refine cq 8 [11,41] [I r8,B (decide (r8<0))] 146 ?_
  refine sq h ?_ ?_<;>intro h
  ·refine aq 1 ?_
   exact rf [0,9,10] [1] (hn _ (aj h) :) (hk:=hK)
  ·refine aq 1 ?_
   refine cq 8 [42,43,44,47] [.hs 1 0 [] 1 0 (x7.2.2.map str).length,I x7.2.1,str x7.1,I (ai (r8+dG))] 242 ?_
   obtain⟨s9,hs9,h⟩:=bS h
   refine oq 258 (str s9) rfl (il rfl rfl rfl rfl (Nv rfl rfl rfl hs9)) ?_
   obtain⟨e10,he10,h⟩:=bS h
   refine oq 274 (.hp 1 0 [] 1 (0+Int.toNat x7.2.1) 0) rfl (ak rfl rfl rfl (dU (f:=str) (xs:=x7.2.2) rfl rfl rfl he10)) ?_
   refine o0 290 rfl rfl (fW rfl rfl (fh (path:=[]) (pl:=true) (e':=str s9) (es2':=(dj x7.2.2 x7.2.1 s9).map str) rfl (dT rfl) rfl rfl rfl aX (dh (f:=str) (xs:=x7.2.2) he10) rfl rfl rfl (iH (f:=str) (xs:=x7.2.2) (y:=s9)) eG 0 rfl)) ?_
   try rw[←gR (f:=str) (xs:=x7.2.2) (i:=x7.2.1) (z:=s9)]
   refine cq 8 [50,54] [str x7.1,I (ai (r8+(len dX)))] 370 ?_
   obtain⟨s11,hs11,h⟩:=bS h
   refine oq 386 (str s11) rfl (il rfl rfl rfl rfl (Nv rfl rfl rfl hs11)) ?_
   refine cq 8 [0,10] [str s11,I (ai (x7.2.1+1))] 450 ?_
   refine cZ ?_
   exact rf [0,1,2,3,9,10] [1] (ih _ _ h hr hn :)
 ·refine aq 1 ?_
  exact rf [0,9,10] [1] (hn _ (aj h) :) (hk:=hK)
theorem XU (s_1:ac)(dX:ac)(dG:Int)(n_4:Int)(r:(List ac))(h:Md s_1 dX dG n_4=some r):br Gu Tryz.f166 [false,false,false,false] 0 (Gt (s_1,dX,dG,n_4)) (Gv r):=by
 show Run _ _ (xw (s_1,dX,dG,n_4) r) [.code Me] _
 refine rI 66 [(0,str s_1),(1,str dX),(2,I dG),(3,I n_4)] [] 1 ?_
 unfold Md at h
 refine cq 10 [13] [B (n_4==0)] 49 ?_
 refine sq h ?_ ?_<;>intro h
 ·refine cq 4 [8] [.isl true []] 65 ?_
  refine abb 8 0 1 81 (.hs 65 0 [] 1 0 0) rfl rfl rfl rfl rfl ?_
  obtain rfl:=sI h
  exact cr rfl ⟨_,fin (vs:=[.hs 65 0 [] 1 0 0]) rfl (gC (gk rfl (dZ (k:=0) (es:=[]) rfl rfl)) eI) rfl (dw (dw (dw (dw fD)))),fz⟩
 ·refine aq 1 ?_
  refine cq 6 [15] [B (dX==([]:ac))] 81 ?_
  refine sq h ?_ ?_<;>intro h
  ·cases h
  ·refine aq 1 ?_
   refine cq 6 [20] [B (decide (n_4<0))] 113 ?_
   obtain⟨y5,hy5,hy51,hy52⟩:=bJ h
   have j5:∀u5,y5=.inr u5→Run Gu 0 (xw (s_1,dX,dG,n_4) r) (.code (cR (cR (cR (cR Me))))::[]) (sT 66 [(0,str s_1),(1,str dX),(2,I dG),(3,I u5)] [] 1):=by
    intro u5 hu
    replace h:=hy52 u5 hu
    refine cq 12 [3,30] [I (if (ai ((len s_1)+1))<u5 then (ai ((len s_1)+1)) else u5),I (if (ai ((len s_1)+1))<u5 then (ai ((len s_1)+1)) else u5)] 113 ?_
    obtain⟨m6,hm6,h⟩:=bS h
    refine oq 129 (.hs 113 0 [] 1 0 (m6.map str).length) rfl (kY rfl rfl (Hi (f:=str) rfl rfl rfl (by decide) hm6 rfl)) ?_
    refine cq 14 [3,9,10] [I (ai ((if (ai ((len s_1)+1))<u5 then (ai ((len s_1)+1)) else u5) - 1)),.hs 113 0 [] 1 0 (m6.map str).length,I (0)] 209 ?_
    obtain⟨y12,hy12,hy121,hy122⟩:=bJ h
    refine bN rfl ?_
    refine rf [0,1,2,3,9,10] [113] (OH s_1 dX dG n_4 u5 rfl (s_1,0,m6) _ hy12 (fun r' e st hq=>by rw[hy121 r' e] at hq;exact hq) fun u12 hu=>?_)
    replace h:=hy122 u12 hu
    refine cq 5 [58,59,60] [.hs 1 0 [] 1 0 (u12.2.2.map str).length,I u12.2.1,str u12.1] 50 ?_
    obtain⟨e13,he13,h⟩:=bS h
    refine oq 66 (.hp 1 0 [] 1 (0+Int.toNat u12.2.1) 0) rfl (ak rfl rfl rfl (dU (f:=str) (xs:=u12.2.2) rfl rfl rfl he13)) ?_
    refine o0 82 rfl rfl (fW rfl rfl (fh (path:=[]) (pl:=true) (e':=str u12.1) (es2':=(dj u12.2.2 u12.2.1 u12.1).map str) rfl (dT rfl) rfl rfl rfl aX (dh (f:=str) (xs:=u12.2.2) he13) rfl rfl rfl (iH (f:=str) (xs:=u12.2.2) (y:=u12.1)) eG 0 rfl)) ?_
    try rw[←gR (f:=str) (xs:=u12.2.2) (i:=u12.2.1) (z:=u12.1)]
    refine cq 6 [62,64] [.hs 1 0 [] 1 0 ((dj u12.2.2 u12.2.1 u12.1).map str).length,I (ai (u12.2.1+1))] 130 ?_
    obtain⟨s14,hs14,h⟩:=bS h
    refine oq 146 (.hs 1 0 [] 1 (0+Int.toNat (0)) (Int.toNat (ai (u12.2.1+1)) - Int.toNat (0))) rfl (il rfl rfl rfl rfl (uR (f:=str) (xs:=(dj u12.2.2 u12.2.1 u12.1)) rfl rfl rfl rfl rfl hs14)) ?_
    refine cq 2 [8] [.hs 1 0 [] 1 (0+Int.toNat (0)) (Int.toNat (ai (u12.2.1+1)) - Int.toNat (0))] 162 ?_
    obtain⟨p15,hp15,h⟩:=bS h
    obtain rfl:=sI h
    exact cr rfl ⟨_,fin (vs:=[.hs 1 0 [] 1 (0+Int.toNat (0)) (Int.toNat (ai (u12.2.1+1)) - Int.toNat (0))]) rfl (gC (gk rfl (U4 (path:=[]) (f:=str) (xs:=(dj u12.2.2 u12.2.1 u12.1)) rfl rfl aX hp15 rfl rU)) eI) rfl (dw (dw (dw (dw fD)))),fz⟩
   have r5:∀r',y5=.inl r'→∀st,xw (s_1,dX,dG,n_4) r' st→(xw (s_1,dX,dG,n_4) r) st:=fun r' e st hq=>by rw[hy51 r' e] at hq;exact hq
   replace h:=hy5
   refine sq h ?_ ?_<;>intro h
   ·refine cq 3 [21,22] [str s_1,str dX] 145 ?_
    obtain⟨r16,hr16,h⟩:=bS h
    refine oq 161 (I r16) rfl (cP (adl hr16)) ?_
    refine cq 3 [3] [I (ai (r16+1))] 193 ?_
    exact rf [0,1,2,3] [] (j5 _ (aj h) :)
   ·refine aq 1 ?_
    exact rf [0,1,2,3] [] (j5 _ (aj h) :)
theorem UT {G:bZ}:bV G 166 CM:=gT 4 0 (aO I9 (aO UN bz)) cd Tryz.func166 (fun a r h=>XU a.1 a.2.1 a.2.2.1 a.2.2.2 r h)
def Gr:(ac×ac)→List V:=cA str (oA str)
def Gs (r:(List ac)):V×List V:=(.usl 1 (r.map str),[])
noncomputable def CL :=bi [false,false] Gr Gs fun x=>CK x.1 x.2
theorem ado {s_1:ac}{dX:ac}{r}(h:CK s_1 dX=some r):CL.F (Gr (s_1,dX))=some (Gs r):=aH (aJ bT (aI bT)) h
noncomputable def adq :=aF Tryz.f130
noncomputable def UR :=cb [(166,CM)]
def adp (x:ac×ac)(r:(List ac)):St→Prop:=QF UR Tryz.f130 [false,false] (Gr x) (Gs r)
theorem XT (s_1:ac)(dX:ac)(r:(List ac))(h:CK s_1 dX=some r):br UR Tryz.f130 [false,false] 0 (Gr (s_1,dX)) (Gs r):=by
 show Run _ _ (adp (s_1,dX) r) [.code adq] _
 refine rI 8 [(0,str s_1),(1,str dX)] [] 1 ?_
 unfold CK at h
 refine cq 8 [5,6] [str s_1,str dX] 49 ?_
 obtain⟨r3,hr3,h⟩:=bS h
 refine oq 65 (.hs 49 0 [] 1 0 (r3.map str).length) rfl (cP (adr hr3)) ?_
 refine cq 2 [4] [.hs 49 0 [] 1 0 (r3.map str).length] 81 ?_
 obtain rfl:=sI h
 exact cr rfl ⟨_,fin (vs:=[.hs 49 0 [] 1 0 (r3.map str).length]) rfl (gC (gk rfl (dZ rfl rfl)) eI) rfl (dw (dw fD)),fz⟩
theorem US {G:bZ}:bV G 130 CL:=gT 2 0 (aO UT bz) cd Tryz.func130 (fun a r h=>XT a.1 a.2 r h)
def EU:((List ac)×ac)→List V:=cA (fG str) (oA str)
def EV (r:Int):V×List V:=(I r,[])
noncomputable def B1 :=bi [false,false] EU EV fun x=>B0 x.1 x.2
theorem acV {s_1:List ac}{v_2:ac}{r}(h:B0 s_1 v_2=some r):B1.F (EU (s_1,v_2))=some (EV r):=aH (aJ (bW bT) (aI bT)) h
noncomputable def TA :=aF Tryz.f165
noncomputable def LF :=cb []
def Tz (x:(List ac)×ac)(r:Int):St→Prop:=QF LF Tryz.f165 [false,false] (EU x) (EV r)
theorem N2 (s_1:List ac)(v_2:ac):ch LF 0 (Tz (s_1,v_2)) (cL (cL (cR (cL (cR TA))))) 0 (qX s_1 v_2) (fun u=>(sT 19 [] [] 1)) fun x3=>(sT 19 [(0,.isl false (s_1.map str)),(1,str v_2),(7,I (len s_1)),(8,I x3)] [] 1):=eg (zz s_1 v_2) fun {Q K} hK self ih x3 y h hr hn=>by
 unfold ly at h
 refine cq 5 [9] [B (decide (x3<(len s_1)))] 17 ?_
 refine sq h ?_ ?_<;>intro h
 ·refine aq 1 ?_
  refine cq 12 [5,11,12,13] [I x3,str v_2,.isl false (s_1.map str),I x3] 97 ?_
  obtain⟨e4,he4,h⟩:=bS h
  refine oq 113 (.iptr (str e4) 0) rfl (ak rfl rfl rfl (ba rfl rfl rfl rfl he4)) ?_
  refine cq 3 [16] [B (v_2==e4)] 145 ?_
  refine sq h ?_ ?_<;>intro h
  ·refine cq 5 [4] [I x3] 177 ?_
   exact cr rfl (hr _ (aj h) _ (qp [I x3]))
  ·refine aq 1 ?_
   refine cq 5 [8] [I (ai (x3+1))] 177 ?_
   refine cZ ?_
   exact rf [0,1,7,8] [] (ih _ _ h hr hn :)
 ·refine aq 1 ?_
  exact rf [] [] (hn _ (aj h) :) (hk:=hK)
theorem Xe (s_1:List ac)(v_2:ac)(r:Int)(h:B0 s_1 v_2=some r):br LF Tryz.f165 [false,false] 0 (EU (s_1,v_2)) (EV r):=by
 show Run _ _ (Tz (s_1,v_2) r) [.code TA] _
 refine rI 19 [(0,.isl false (s_1.map str)),(1,str v_2)] [] 1 ?_
 unfold B0 at h
 refine cq 8 [6] [.isl false (s_1.map str)] 33 ?_
 refine oq 49 (I (len s_1)) rfl (bu rfl rfl rfl (bG rfl)) ?_
 refine cq 3 [8] [I (0)] 65 ?_
 obtain⟨y5,hy5,hy51,hy52⟩:=bJ h
 refine bN rfl ?_
 refine rf [0,1,7,8] [] (N2 s_1 v_2 rfl 0 _ hy5 (fun r' e st hq=>by rw[hy51 r' e] at hq;exact hq) fun u5 hu=>?_)
 replace h:=hy52 u5 hu
 refine cq 4 [4] [I (-1)] 17 ?_
 obtain rfl:=sI h
 exact rP [I (-1)]
theorem TB {G:bZ}:bV G 165 B1:=gT 2 0 bz cd Tryz.func165 (fun a r h=>Xe a.1 a.2 r h)
def EG:((List ac)×ac)→List V:=cA (fG str) (oA str)
def EH (r:Bool):V×List V:=(B r,[])
noncomputable def rj :=bi [false,false] EG EH fun x=>ri x.1 x.2
theorem Ly {s_1:List ac}{v_2:ac}{r}(h:ri s_1 v_2=some r):rj.F (EG (s_1,v_2))=some (EH r):=aH (aJ (bW bT) (aI bT)) h
noncomputable def acO :=aF Tryz.f129
noncomputable def Tf :=cb [(165,B1)]
def acN (x:(List ac)×ac)(r:Bool):St→Prop:=QF Tf Tryz.f129 [false,false] (EG x) (EH r)
theorem W6 (s_1:List ac)(v_2:ac)(r:Bool)(h:ri s_1 v_2=some r):br Tf Tryz.f129 [false,false] 0 (EG (s_1,v_2)) (EH r):=by
 show Run _ _ (acN (s_1,v_2) r) [.code acO] _
 refine rI 9 [(0,.isl false (s_1.map str)),(1,str v_2)] [] 1 ?_
 unfold ri at h
 refine cq 8 [5,6] [.isl false (s_1.map str),str v_2] 49 ?_
 obtain⟨r3,hr3,h⟩:=bS h
 refine oq 65 (I r3) rfl (cP (acV hr3)) ?_
 refine cq 3 [4] [B (decide (r3≥0))] 97 ?_
 obtain rfl:=sI h
 exact rP [B (decide (r3≥0))]
theorem wS {G:bZ}:bV G 129 rj:=gT 2 0 (aO TB bz) cd Tryz.func129 (fun a r h=>W6 a.1 a.2 r h)
def Kg:ac→List V:=oA str
def Kh (r:Bool):V×List V:=(B r,[])
noncomputable def re :=bi [false] Kg Kh fun x=>wh x
theorem Gy {s_1:ac}{r}(h:wh s_1=some r):re.F (Kg s_1)=some (Kh r):=aH (aI bT) h
noncomputable def yF :=aF Tryz.f81
noncomputable abbrev rx :=cL (cL (cR (cL (cR (cR yF)))))
noncomputable abbrev Gz :=cR (cR (cR rx))
noncomputable abbrev GA :=cR (cR (cR (cL (cL (cR (cR rx))))))
noncomputable def qA :=cb [(99,iJ),(130,CL),(129,rj)]
def si (x:ac)(r:Bool):St→Prop:=QF qA Tryz.f81 [false] (Kg x) (Kh r)
theorem Qj (s_1:ac):ch qA 0 (si s_1) rx 0 (xy s_1) (fun u=>(sT 46 [(0,str s_1)] [] 1)) fun x4=>(sT 46 [(0,str s_1),(20,I (len s_1)),(21,I x4)] [] 1):=eg (GB s_1) fun {Q K} hK self ih x4 y h hr hn=>by
 unfold pm at h
 refine cq 5 [22] [B (decide (x4<(len s_1)))] 17 ?_
 refine sq h ?_ ?_<;>intro h
 ·refine aq 1 ?_
  refine cq 11 [24,25] [str s_1,I x4] 81 ?_
  obtain⟨c5,hc5,h⟩:=bS h
  refine oq 97 (.int .u8 (c5.toNat:Int)) rfl (nY rfl rfl (sw rfl rfl hc5)) ?_
  refine cq 7 [4,29] [.int .u8 (c5.toNat:Int),B (decide ((c5.toNat:Int)<97))] 161 ?_
  obtain⟨u6,hu6,h⟩:=lJ h
  have j6:Run qA 0 Q (.code GA::.blk 1::.code Gz::.lp rx::.blk 0::K) (sT 46 [(0,str s_1),(20,I (len s_1)),(21,I x4),(40,B u6)] [] 1):=by
   refine sq h ?_ ?_<;>intro h
   ·refine cq 4 [2] [B false] 17 ?_
    exact cr rfl (hr _ (aj h) _ (qp [B false]))
   ·refine aq 1 ?_
    refine cq 5 [21] [I (ai (x4+1))] 33 ?_
    refine cZ ?_
    exact rf [0,20,21] [] (ih _ _ h hr hn :)
  replace h:=hu6
  clear hu6
  refine sp 29 h rfl ?_ ?_<;>intro h
  ·refine cq 7 [33,36] [B true,B (decide ((c5.toNat:Int)<48))] 273 ?_
   obtain⟨u7,hu7,h⟩:=lJ h
   have j7:Run qA 0 Q (.code GA::.blk 1::.code Gz::.lp rx::.blk 0::K) (sT 46 [(0,str s_1),(20,I (len s_1)),(21,I x4),(40,B u7)] [] 1):=by
    subst h
    exact rf [0,20,21,40] [] (j6 :)
   replace h:=hu7
   clear hu7
   refine sp 36 h rfl ?_ ?_<;>intro h
   ·refine cq 5 [40] [B true] 337 ?_
    subst h
    exact rf [0,20,21,40] [] (j7 :)
   ·refine cq 5 [40] [B (decide ((c5.toNat:Int)>57))] 337 ?_
    subst h
    exact rf [0,20,21,40] [] (j7 :)
  ·refine cq 4 [33] [B (decide ((c5.toNat:Int)>122))] 225 ?_
   obtain⟨u8,hu8,h⟩:=lJ h
   have j8:Run qA 0 Q (.code GA::.blk 1::.code Gz::.lp rx::.blk 0::K) (sT 46 [(0,str s_1),(20,I (len s_1)),(21,I x4),(40,B u8)] [] 1):=by
    subst h
    exact rf [0,20,21,40] [] (j6 :)
   replace h:=hu8
   clear hu8
   refine sp 33 h rfl ?_ ?_<;>intro h
   ·refine cq 3 [36] [B (decide ((c5.toNat:Int)<48))] 273 ?_
    obtain⟨u9,hu9,h⟩:=lJ h
    have j9:Run qA 0 Q (.code GA::.blk 1::.code Gz::.lp rx::.blk 0::K) (sT 46 [(0,str s_1),(20,I (len s_1)),(21,I x4),(40,B u9)] [] 1):=by
     subst h
     exact rf [0,20,21,40] [] (j8 :)
    replace h:=hu9
    clear hu9
    refine sp 36 h rfl ?_ ?_<;>intro h
    ·refine cq 5 [40] [B true] 337 ?_
     subst h
     exact rf [0,20,21,40] [] (j9 :)
    ·refine cq 5 [40] [B (decide ((c5.toNat:Int)>57))] 337 ?_
     subst h
     exact rf [0,20,21,40] [] (j9 :)
   ·refine cq 8 [40] [B false] 337 ?_
    subst h
    exact rf [0,20,21,40] [] (j8 :)
 ·refine aq 1 ?_
  exact rf [0] [] (hn _ (aj h) :) (hk:=hK)
theorem aab (s_1:ac)(r:Bool)(h:wh s_1=some r):br qA Tryz.f81 [false] 0 (Kg s_1) (Kh r):=by
 show Run _ _ (si s_1 r) [.code yF] _
 refine rI 46 [(0,str s_1)] [] 1 ?_
 unfold wh at h
 refine cq 9 [6] [I (len s_1)] 49 ?_
 obtain⟨r2,hr2,h⟩:=bS h
 refine oq 65 (B r2) rfl (cP (iI hr2)) ?_
 refine cq 2 [9] [B (!r2)] 97 ?_
 obtain⟨y3,hy3,hy31,hy32⟩:=bJ h
 have j3:∀u3,y3=.inr u3→Run qA 0 (si s_1 r) (.code (cR (cL (cR yF)))::.code (cR (cR yF))::[]) (sT 46 [(0,str s_1),(18,B u3)] [] 1):=by
  intro u3 hu
  replace h:=hy32 u3 hu
  refine sq h ?_ ?_<;>intro h
  ·refine cq 4 [2] [B false] 17 ?_
   obtain rfl:=sI h
   exact rP [B false]
  ·refine aq 1 ?_
   refine cq 8 [20,21] [I (len s_1),I (0)] 49 ?_
   obtain⟨y10,hy10,hy101,hy102⟩:=bJ h
   refine bN rfl ?_
   refine rf [0,20,21] [] (Qj s_1 rfl 0 _ hy10 (fun r' e st hq=>by rw[hy101 r' e] at hq;exact hq) fun u10 hu=>?_)
   replace h:=hy102 u10 hu
   refine aq 2 ?_
   obtain⟨r11,hr11,h⟩:=bS h
   refine oq 17 (.hs 1 0 [] 1 0 (r11.map str).length) rfl (cP (ado hr11)) ?_
   refine cq 1 [43] [str s_1] 33 ?_
   obtain⟨r12,hr12,h⟩:=bS h
   refine oq 49 (B r12) rfl (b8 rfl rfl (cu rfl rfl rfl (bd (JO rfl rfl (eP (f:=str) (g:=str) (xs:=r11) rfl rfl (co ga))) (bd (bM rfl) dx)) (Ly hr12) (.inl rfl) ec rfl rfl rfl)) ?_
   refine cq 3 [2] [B (!r12)] 81 ?_
   obtain rfl:=sI h
   exact rP [B (!r12)]
 have r3:∀r',y3=.inl r'→∀st,si s_1 r' st→(si s_1 r) st:=fun r' e st hq=>by rw[hy31 r' e] at hq;exact hq
 replace h:=hy3
 refine sp 9 h rfl ?_ ?_<;>intro h
 ·refine cq 10 [18] [B true] 241 ?_
  exact rf [0,18] [] (j3 _ (aj h) :)
 ·refine cq 1 [10] [str s_1] 113 ?_
  obtain⟨c13,hc13,h⟩:=bS h
  refine oy 129 (.int .u8 (c13.toNat:Int)) rfl (nY rfl rfl (sw rfl rfl hc13)) ?_
  refine cq 3 [14] [B (decide ((c13.toNat:Int)<97))] 177 ?_
  obtain⟨y14,hy14,hy141,hy142⟩:=bL h
  have j14:∀u14,y14=.inr u14→Run qA 0 (si s_1 r) (.code (cR (cL (cR yF)))::.code (cR (cR yF))::[]) (sT 46 [(0,str s_1),(18,B u14)] [] 1):=by
   intro u14 hu
   replace h:=hy142 u14 hu
   exact rf [0,18] [] (j3 _ (aj h) :)
  have r14:∀r',y14=.inl r'→∀st,si s_1 r' st→(si s_1 r) st:=fun r' e st hq=>r3 r' (hy141 r' e) st hq
  replace h:=hy14
  refine sp 14 h rfl ?_ ?_<;>intro h
  ·refine cq 5 [18] [B true] 241 ?_
   exact rf [0,18] [] (j14 _ (aj h) :)
  ·refine cq 1 [15] [str s_1] 193 ?_
   obtain⟨c15,hc15,h⟩:=bS h
   refine oy 209 (.int .u8 (c15.toNat:Int)) rfl (nY rfl rfl (sw rfl rfl hc15)) ?_
   refine cq 3 [18] [B (decide ((c15.toNat:Int)>122))] 241 ?_
   exact rf [0,18] [] (j14 _ (aj h) :)
theorem vt {G:bZ}:bV G 81 re:=gT 1 0 (aO jd (aO US (aO wS bz))) cd Tryz.func81 (fun a r h=>aab a r h)
def Ko:(List ac)→List V:=oA (fG str)
def Kq (r:Bool):V×List V:=(B r,[])
noncomputable def Ik :=bi [false] Ko Kq fun x=>Mi x
theorem aee {ay:List ac}{r}(h:Mi ay=some r):Ik.F (Ko ay)=some (Kq r):=aH (aI (bW bT)) h
noncomputable def GG :=aF Tryz.f98
noncomputable def Kp :=cb [(81,re),(129,rj),(99,iJ)]
def Qq (x:(List ac))(r:Bool):St→Prop:=QF Kp Tryz.f98 [false] (Ko x) (Kq r)
theorem Qr (ay:List ac):ch Kp 0 (Qq ay) (cL (cL (cR (cL (cR GG))))) 0 (xz ay) (fun u=>(sT 26 [(0,.isl false (ay.map str))] [] 1)) fun x2=>(sT 26 [(0,.isl false (ay.map str)),(5,.isl false (ay.map str)),(6,I (len ay)),(7,I x2)] [] 1):=eg (GH ay) fun {Q K} hK self ih x2 y h hr hn=>by
 unfold mX at h
 refine cq 5 [8] [B (decide (x2<(len ay)))] 17 ?_
 refine sq h ?_ ?_<;>intro h
 ·refine aq 1 ?_
  refine cq 5 [9] [I x2] 33 ?_
  obtain⟨e3,he3,h⟩:=bS h
  refine oq 49 (.iptr (str e3) 0) rfl (ak rfl rfl rfl (ba rfl rfl rfl rfl he3)) ?_
  refine cq 7 [3,4,12] [I x2,str e3,str e3] 113 ?_
  obtain⟨r4,hr4,h⟩:=bS h
  refine oq 129 (B r4) rfl (cP (Gy hr4)) ?_
  refine cq 2 [15] [B (!r4)] 161 ?_
  obtain⟨y5,hy5,hy51,hy52⟩:=bL h
  have j5:∀u5,y5=.inr u5→Run Kp 0 Q (.code (cR (cR (cL (cL (cR (cR (cL (cL (cR (cL (cR GG)))))))))))::.blk 1::.code (cR (cR (cR (cL (cL (cR (cL (cR GG))))))))::.lp (cL (cL (cR (cL (cR GG)))))::.blk 0::K) (sT 26 [(0,.isl false (ay.map str)),(5,.isl false (ay.map str)),(6,I (len ay)),(7,I x2),(21,B u5)] [] 1):=by
   intro u5 hu
   replace h:=hy52 u5 hu
   refine sq h ?_ ?_<;>intro h
   ·refine cq 4 [2] [B false] 17 ?_
    exact cr rfl (hr _ (aj h) _ (qp [B false]))
   ·refine aq 1 ?_
    refine cq 5 [7] [I (ai (x2+1))] 33 ?_
    refine cZ ?_
    exact rf [0,5,6,7] [] (ih _ _ h hr hn :)
  have r5:∀r',y5=.inl r'→∀st,Qq ay r' st→Q st:=fun r' e st hq=>hr r' (hy51 r' e) st hq
  replace h:=hy5
  refine sp 15 h rfl ?_ ?_<;>intro h
  ·refine cq 7 [21] [B true] 257 ?_
   exact rf [0,5,6,7,21] [] (j5 _ (aj h) :)
  ·refine cq 2 [16,17] [.isl false (ay.map str),I x2] 193 ?_
   obtain⟨s6,hs6,h⟩:=bS h
   refine oy 209 (.isl false (s6.map str)) rfl (il rfl rfl rfl rfl (yo rfl rfl (fun y=>(l9 y).1) rfl rfl hs6)) ?_
   refine cq 1 [19] [str e3] 225 ?_
   obtain⟨r7,hr7,h⟩:=bS h
   refine oy 241 (B r7) rfl (cP (Ly hr7)) ?_
   refine cq 2 [21] [B r7] 257 ?_
   exact rf [0,5,6,7,21] [] (j5 _ (aj h) :)
 ·refine aq 1 ?_
  exact rf [0] [] (hn _ (aj h) :) (hk:=hK)
theorem aag (ay:List ac)(r:Bool)(h:Mi ay=some r):br Kp Tryz.f98 [false] 0 (Ko ay) (Kq r):=by
 show Run _ _ (Qq ay r) [.code GG] _
 refine rI 26 [(0,.isl false (ay.map str))] [] 1 ?_
 unfold Mi at h
 refine cq 8 [5] [.isl false (ay.map str)] 33 ?_
 refine oq 49 (I (len ay)) rfl (bu rfl rfl rfl (bG rfl)) ?_
 refine cq 3 [7] [I (0)] 65 ?_
 obtain⟨y8,hy8,hy81,hy82⟩:=bJ h
 refine bN rfl ?_
 refine rf [0,5,6,7] [] (Qr ay rfl 0 _ hy8 (fun r' e st hq=>by rw[hy81 r' e] at hq;exact hq) fun u8 hu=>?_)
 replace h:=hy82 u8 hu
 refine cq 3 [23] [.isl false (ay.map str)] 17 ?_
 refine oq 33 (I (len ay)) rfl (bu rfl rfl rfl (bG rfl)) ?_
 obtain⟨r9,hr9,h⟩:=bS h
 refine oq 49 (B r9) rfl (cP (iI hr9)) ?_
 refine cq 2 [2] [B r9] 65 ?_
 obtain rfl:=sI h
 exact rP [B r9]
theorem XZ {G:bZ}:bV G 98 Ik:=gT 1 0 (aO vt (aO wS (aO jd bz))) cd Tryz.func98 (fun a r h=>aag a r h)
def Kt:(Clause×ac)→List V:=cA ap (oA (fun x:ac=>.iptr (str x) 0))
def Ku (r:Bool):V×List V:=(B r,[])
noncomputable def Im :=bi [false,false] Kt Ku fun x=>UX x.1 x.2
theorem aeh {x_1:Clause}{a_2:ac}{r}(h:UX x_1 a_2=some r):Im.F (Kt (x_1,a_2))=some (Ku r):=aH (aJ dI (aI (kz bT))) h
noncomputable def aej :=aF Tryz.f175
noncomputable def Zw :=cb []
def aei (x:Clause×ac)(r:Bool):St→Prop:=QF Zw Tryz.f175 [false,false] (Kt x) (Ku r)
theorem aai (x_1:Clause)(a_2:ac)(r:Bool)(h:UX x_1 a_2=some r):br Zw Tryz.f175 [false,false] 0 (Kt (x_1,a_2)) (Ku r):=by
 show Run _ _ (aei (x_1,a_2) r) [.code aej] _
 refine rI 8 [(0,au x_1),(1,.iptr (str a_2) 0)] [] 1 ?_
 unfold UX at h
 refine cq 13 [3] [B (x_1.Id==a_2)] 113 ?_
 obtain rfl:=sI h
 exact rP [B (x_1.Id==a_2)]
theorem X1 {G:bZ}:bV G 175 Im:=gT 2 0 bz cd Tryz.func175 (fun a r h=>aai a.1 a.2 r h)
def EI:((List Clause)×ac)→List V:=cA (fG ap) (oA (fun x:ac=>(.fn 175 [.iptr (str x) 0]:V)))
def EJ (r:Int):V×List V:=(I r,[])
noncomputable def BT :=bi [false,false] EI EJ fun x=>HZ x.1 x.2
theorem acP {s_1:List Clause}{f_2:ac}{r}(h:HZ s_1 f_2=some r):BT.F (EI (s_1,f_2))=some (EJ r):=aH (aJ (bW dI) (aI (iD bT))) h
noncomputable def Th :=aF Tryz.f110
noncomputable def Lz :=cb [(175,Im)]
def Tg (x:(List Clause)×ac)(r:Int):St→Prop:=QF Lz Tryz.f110 [false,false] (EI x) (EJ r)
theorem NW (s_1:List Clause)(f_2:ac):ch Lz 0 (Tg (s_1,f_2)) (cL (cL (cR (cL (cR Th))))) 0 (tF s_1 f_2) (fun u=>(sT 19 [] [] 1)) fun x3=>(sT 19 [(0,.isl false (s_1.map ap)),(1,.fn 175 [.iptr (str f_2) 0]),(7,I (len s_1)),(8,I x3)] [] 1):=eg (zr s_1 f_2) fun {Q K} hK self ih x3 y h hr hn=>by
 unfold nB at h
 refine cq 5 [9] [B (decide (x3<(len s_1)))] 17 ?_
 refine sq h ?_ ?_<;>intro h
 ·refine aq 1 ?_
  refine cq 12 [5,11,12,13] [I x3,.fn 175 [.iptr (str f_2) 0],.isl false (s_1.map ap),I x3] 97 ?_
  obtain⟨e4,he4,h⟩:=bS h
  refine oq 113 (.iptr (au e4) 0) rfl (ak rfl rfl rfl (ba rfl rfl rfl rfl he4)) ?_
  refine cq 1 [15] [au e4] 129 ?_
  obtain⟨r5,hr5,h⟩:=bS h
  refine oq 145 (B r5) rfl (cP (aeh hr5)) ?_
  refine aq 1 ?_
  refine sq h ?_ ?_<;>intro h
  ·refine cq 5 [4] [I x3] 177 ?_
   exact cr rfl (hr _ (aj h) _ (qp [I x3]))
  ·refine aq 1 ?_
   refine cq 5 [8] [I (ai (x3+1))] 177 ?_
   refine cZ ?_
   exact rf [0,1,7,8] [] (ih _ _ h hr hn :)
 ·refine aq 1 ?_
  exact rf [] [] (hn _ (aj h) :) (hk:=hK)
theorem W7 (s_1:List Clause)(f_2:ac)(r:Int)(h:HZ s_1 f_2=some r):br Lz Tryz.f110 [false,false] 0 (EI (s_1,f_2)) (EJ r):=by
 show Run _ _ (Tg (s_1,f_2) r) [.code Th] _
 refine rI 19 [(0,.isl false (s_1.map ap)),(1,.fn 175 [.iptr (str f_2) 0])] [] 1 ?_
 unfold HZ at h
 refine cq 8 [6] [.isl false (s_1.map ap)] 33 ?_
 refine oq 49 (I (len s_1)) rfl (bu rfl rfl rfl (bG rfl)) ?_
 refine cq 3 [8] [I (0)] 65 ?_
 obtain⟨y6,hy6,hy61,hy62⟩:=bJ h
 refine bN rfl ?_
 refine rf [0,1,7,8] [] (NW s_1 f_2 rfl 0 _ hy6 (fun r' e st hq=>by rw[hy61 r' e] at hq;exact hq) fun u6 hu=>?_)
 replace h:=hy62 u6 hu
 refine cq 4 [4] [I (-1)] 17 ?_
 obtain rfl:=sI h
 exact rP [I (-1)]
theorem Ti {G:bZ}:bV G 110 BT:=gT 2 0 (aO X1 bz) cd Tryz.func110 (fun a r h=>W7 a.1 a.2 r h)
def Kr:(Contract×ac)→List V:=cA aM (oA str)
def Ks (r:Int):V×List V:=(I r,[])
noncomputable def Il :=bi [false,false] Kr Ks fun x=>GI x.1 x.2
theorem Zv {c_1:Contract}{fj:ac}{r}(h:GI c_1 fj=some r):Il.F (Kr (c_1,fj))=some (Ks r):=aH (aJ aU (aI bT)) h
noncomputable def aeg :=aF Tryz.f140
noncomputable def Zu :=cb [(110,BT)]
def aef (x:Contract×ac)(r:Int):St→Prop:=QF Zu Tryz.f140 [false,false] (Kr x) (Ks r)
theorem aah (c_1:Contract)(fj:ac)(r:Int)(h:GI c_1 fj=some r):br Zu Tryz.f140 [false,false] 0 (Kr (c_1,fj)) (Ks r):=by
 show Run _ _ (aef (c_1,fj) r) [.code aeg] _
 refine rI 9 [(0,aa c_1),(1,str fj)] [] 1 ?_
 unfold GI at h
 refine ck 11 [6,7] [] [17] [] [.isl false (c_1.Clauses.map ap),.fn 175 [.hp 17 0 [] 1 0 0]] [some ⟨0,1,[str fj]⟩] 97 (by kernel_rfl) ?_
 obtain⟨r3,hr3,h⟩:=bS h
 refine oq 113 (I r3) rfl (b8 rfl rfl (cu rfl rfl rfl (bd (bM rfl) (bd (l4 (dS (l6 (path:=[]) rfl rfl aX rfl rfl) gL)) dx)) (acP hr3) (.inl rfl) ec rfl rfl rfl)) ?_
 refine cq 2 [4] [I r3] 129 ?_
 obtain rfl:=sI h
 exact rP [I r3]
theorem X0 {G:bZ}:bV G 140 Il:=gT 2 0 (aO Ti bz) cd Tryz.func140 (fun a r h=>aah a.1 a.2 r h)
def KG:Int→List V:=oA I
def KH (r:Bool):V×List V:=(B r,[])
noncomputable def un :=bi [false] KG KH fun x=>oY x
theorem vw {gZ:Int}{r}(h:oY gZ=some r):un.F (KG gZ)=some (KH r):=aH (aI bo) h
noncomputable def aes :=aF Tryz.f78
noncomputable def ZE :=cb [(99,iJ)]
def aer (x:Int)(r:Bool):St→Prop:=QF ZE Tryz.f78 [false] (KG x) (KH r)
theorem aaq (gZ:Int)(r:Bool)(h:oY gZ=some r):br ZE Tryz.f78 [false] 0 (KG gZ) (KH r):=by
 show Run _ _ (aer gZ r) [.code aes] _
 refine rI 5 [(0,I gZ)] [] 1 ?_
 unfold oY at h
 refine cq 7 [3] [I gZ] 33 ?_
 obtain⟨r2,hr2,h⟩:=bS h
 refine oq 49 (B r2) rfl (cP (iI hr2)) ?_
 refine cq 2 [2] [B r2] 65 ?_
 obtain rfl:=sI h
 exact rP [B r2]
theorem CP {G:bZ}:bV G 78 un:=gT 1 0 (aO jd bz) cd Tryz.func78 (fun a r h=>aaq a r h)
def GJ:(Condition×Int)→List V:=cA bF (oA I)
def GK (r:Int):V×List V:=(I r,[])
noncomputable def CO (bm:(Condition×Int)→Option Int):Ent:=bi [false,false] GJ GK bm
theorem UZ (bm:(Condition×Int)→Option Int){x}{r}(h:bm x=some r):(CO bm).F (GJ x)=some (GK r):=aH (aJ dC (aI bo)) h
noncomputable def Io :=CO (aL mO)
theorem aek {c_1:Condition}{cI:Int}{r}(h:UY c_1 cI=some r):Io.F (GJ (c_1,cI))=some (GK r):=UZ (aL mO) h
noncomputable def vv :=aF Tryz.f176
noncomputable abbrev pY :=cR (cR (cR (cR (cR vv))))
noncomputable abbrev ry :=cR (cL (cR (cR (cR (cR vv)))))
noncomputable def mN (bm:(Condition×Int)→Option Int):Env:=cb [(176,(CO bm)),(81,re),(78,un),(99,iJ)]
def fx (bm:(Condition×Int)→Option Int)(x:Condition×Int)(r:Int):St→Prop:=QF (mN bm) Tryz.f176 [false,false] (GJ x) (GK r)
theorem Qs (bm:(Condition×Int)→Option Int)(c_1:Condition)(cI:Int):ch (mN bm) 0 (fx bm (c_1,cI)) (cL (cL (cR (cL pY)))) 0 (mG bm c_1 cI) (fun u=>(sT 78 [(1,I u)] [] 1)) fun x5=>(sT 78 [(1,I x5.1),(65,.isl false (c_1.Parts.map aE)),(66,I (len c_1.Parts)),(67,I x5.2)] [] 1):=eg (GL bm c_1 cI) fun {Q K} hK self ih x5 y h hr hn=>by
 unfold lP at h
 refine cq 5 [68] [B (decide (x5.2<(len c_1.Parts)))] 17 ?_
 refine sq h ?_ ?_<;>intro h
 ·refine aq 1 ?_
  refine aq 4 ?_
  obtain⟨e6,he6,h⟩:=bS h
  refine oq 33 (.iptr (ao e6) 0) rfl (ak rfl rfl rfl (ba rfl rfl (dA e6) rfl he6)) ?_
  refine ck 2 [7,70] [] [49] [] [.hp 49 0 [] 4 0 0,ao e6] [some ⟨0,4,[.agg [I (0),str ([]),I (0),.isl true []]]⟩] 65 (by kernel_rfl) ?_
  refine fP 49 [.agg [I (0),str ([]),I (0),.usl 4 (([]).map aC)]] rfl rfl (aP (hY (aP (.refl _) (aP (.refl _) (aP (.refl _) (aP (.nil _) eT))))) eT) ?_
  refine ck 6 [71,72] [] [49] [] [ao e6,I x5.1] [some ⟨2,4,[ao e6]⟩] 113 (by kernel_rfl) ?_
  obtain⟨r7,hr7,h⟩:=bS h
  refine oq 129 (I r7) rfl (b8 rfl rfl (cu rfl rfl rfl (bd (bM rfl) (bd (bM rfl) dx)) (UZ bm hr7) (.inr rfl) ec rfl rfl rfl)) ?_
  refine cq 7 [1,75] [I r7,B (decide (r7<0))] 177 ?_
  refine sq h ?_ ?_<;>intro h
  ·refine cq 4 [4] [I (-1)] 193 ?_
   exact cr rfl (hr _ (aj h) _ (qp [I (-1)]))
  ·refine aq 1 ?_
   refine cq 5 [67] [I (ai (x5.2+1))] 209 ?_
   refine cZ ?_
   exact rf [1,65,66,67] [] (ih _ _ h hr hn :)
 ·refine aq 1 ?_
  exact rf [1] [] (hn _ (aj h) :) (hk:=hK)
theorem aak (bm:(Condition×Int)→Option Int)(c_1:Condition)(cI:Int)(r:Int)(h:yH bm c_1 cI=some r):br (mN bm) Tryz.f176 [false,false] 0 (GJ (c_1,cI)) (GK r):=by
 show Run _ _ (fx bm (c_1,cI) r) [.code vv] _
 refine rI 78 [(0,ao c_1),(1,I cI)] [] 1 ?_
 unfold yH at h
 refine ck 13 [1,2] [] [1] [] [I (ai (cI+1)),.hp 1 0 [] 4 0 0] [some ⟨0,4,[ao c_1]⟩] 81 (by kernel_rfl) ?_
 refine oq 97 (.hs 81 0 [] 1 0 7) rfl (eW rfl (mo (f:=I) (xs:=[]) (z:=I (0)) (es:=[I (-1),I (0),I (0),I (0),I (1),I (2),I (2)]) (ws:=[I (-1),I (0),I (0),I (0),I (1),I (2),I (2)]) rfl rfl rfl (by decide) rfl (d9 rfl) rfl)) ?_
 refine cq 4 [5] [.hs 81 0 [] 1 0 7] 113 ?_
 refine dK [0,1,3,7,15,31,63,127,255,511,1023,2047,511,511,8703,29183,61951,131071,262143] rfl (by decide +kernel) ?_
 refine dk 3 [13,12,11] [B (decide ((ai (cI+1))>15)),B (decide ((ai (cI+1))>15)),I (ai (cI+1))] ?_
 obtain⟨y3,hy3,hy31,hy32⟩:=bJ h
 have j3:∀u3,y3=.inr u3→Run (mN bm) 0 (fx bm (c_1,cI) r) (.code (cR (cL (cR (cR (cR vv)))))::.code (cR (cR (cR (cR vv))))::[]) (sT 78 [(1,I (ai (cI+1))),(2,.hp 1 0 [] 4 0 0),(29,B u3)] [⟨0,4,[ao c_1]⟩] 2):=by
  intro u3 hu
  replace h:=hy32 u3 hu
  refine sq h ?_ ?_<;>intro h
  ·refine cq 4 [4] [I (-1)] 18 ?_
   obtain rfl:=sI h
   exact rP [I (-1)]
  ·refine aq 1 ?_
   refine cq 11 [37] [B (!((c_1.Op==2)==(!(c_1.Name==([]:ac)))))] 130 ?_
   obtain⟨y4,hy4,hy41,hy42⟩:=bJ h
   have j4:∀u4,y4=.inr u4→Run (mN bm) 0 (fx bm (c_1,cI) r) (.code ry::.code pY::[]) (sT 78 [(1,I (ai (cI+1))),(2,.hp 1 0 [] 4 0 0),(63,B u4)] [⟨0,4,[ao c_1]⟩] 2):=by
    intro u4 hu
    replace h:=hy42 u4 hu
    refine sq h ?_ ?_<;>intro h
    ·refine cq 4 [4] [I (-1)] 18 ?_
     obtain rfl:=sI h
     exact rP [I (-1)]
    ·refine aq 1 ?_
     refine cq 5 [65] [.isl false (c_1.Parts.map aE)] 34 ?_
     refine oq 50 (I (len c_1.Parts)) rfl (bu rfl rfl rfl (bG rfl)) ?_
     refine cq 3 [67] [I (0)] 66 ?_
     obtain⟨y8,hy8,hy81,hy82⟩:=bJ h
     refine bN rfl ?_
     refine rf [1,65,66,67] [] (Qs bm c_1 cI rfl ((ai (cI+1)),0) _ hy8 (fun r' e st hq=>by rw[hy81 r' e] at hq;exact hq) fun u8 hu=>?_)
     replace h:=hy82 u8 hu
     refine cq 5 [4] [I u8] 33 ?_
     obtain rfl:=sI h
     exact rP [I u8]
   have r4:∀r',y4=.inl r'→∀st,fx bm (c_1,cI) r' st→(fx bm (c_1,cI) r) st:=fun r' e st hq=>by rw[hy41 r' e] at hq;exact hq
   replace h:=hy4
   refine sp 37 h rfl ?_ ?_<;>intro h
   ·refine cq 27 [63] [B true] 546 ?_
    exact rf [1,2,63] [1] (j4 _ (aj h) :)
   ·refine cq 4 [41] [B (c_1.Op==2)] 194 ?_
    obtain⟨y9,hy9,hy91,hy92⟩:=bL h
    have j9:∀u9,y9=.inr u9→Run (mN bm) 0 (fx bm (c_1,cI) r) (.code ry::.code pY::[]) (sT 78 [(1,I (ai (cI+1))),(2,.hp 1 0 [] 4 0 0),(63,B u9)] [⟨0,4,[ao c_1]⟩] 2):=by
     intro u9 hu
     replace h:=hy92 u9 hu
     exact rf [1,2,63] [1] (j4 _ (aj h) :)
    have r9:∀r',y9=.inl r'→∀st,fx bm (c_1,cI) r' st→(fx bm (c_1,cI) r) st:=fun r' e st hq=>r4 r' (hy91 r' e) st hq
    replace h:=hy9
    refine sp 41 h rfl ?_ ?_<;>intro h
    ·refine cq 2 [43] [str c_1.Name] 226 ?_
     obtain⟨r10,hr10,h⟩:=bS h
     refine oy 242 (B r10) rfl (cP (Gy hr10)) ?_
     refine cq 4 [48] [B (!r10)] 306 ?_
     obtain⟨y11,hy11,hy111,hy112⟩:=bL h
     have j11:∀u11,y11=.inr u11→Run (mN bm) 0 (fx bm (c_1,cI) r) (.code ry::.code pY::[]) (sT 78 [(1,I (ai (cI+1))),(2,.hp 1 0 [] 4 0 0),(63,B u11)] [⟨0,4,[ao c_1]⟩] 2):=by
      intro u11 hu
      replace h:=hy112 u11 hu
      exact rf [1,2,63] [1] (j9 _ (aj h) :)
     have r11:∀r',y11=.inl r'→∀st,fx bm (c_1,cI) r' st→(fx bm (c_1,cI) r) st:=fun r' e st hq=>r9 r' (hy111 r' e) st hq
     replace h:=hy11
     refine sp 48 h rfl ?_ ?_<;>intro h
     ·refine cq 16 [63] [B true] 546 ?_
      exact rf [1,2,63] [1] (j11 _ (aj h) :)
     ·refine cq 4 [52] [B (c_1.Op != 3)] 370 ?_
      obtain⟨y12,hy12,hy121,hy122⟩:=bL h
      have j12:∀u12,y12=.inr u12→Run (mN bm) 0 (fx bm (c_1,cI) r) (.code ry::.code pY::[]) (sT 78 [(1,I (ai (cI+1))),(2,.hp 1 0 [] 4 0 0),(63,B u12)] [⟨0,4,[ao c_1]⟩] 2):=by
       intro u12 hu
       replace h:=hy122 u12 hu
       exact rf [1,2,63] [1] (j11 _ (aj h) :)
      have r12:∀r',y12=.inl r'→∀st,fx bm (c_1,cI) r' st→(fx bm (c_1,cI) r) st:=fun r' e st hq=>r11 r' (hy121 r' e) st hq
      replace h:=hy12
      refine sp 52 h rfl ?_ ?_<;>intro h
      ·refine cq 6 [58] [B (c_1.Day != 0)] 466 ?_
       obtain⟨y13,hy13,hy131,hy132⟩:=bL h
       have j13:∀u13,y13=.inr u13→Run (mN bm) 0 (fx bm (c_1,cI) r) (.code ry::.code pY::[]) (sT 78 [(1,I (ai (cI+1))),(2,.hp 1 0 [] 4 0 0),(63,B u13)] [⟨0,4,[ao c_1]⟩] 2):=by
        intro u13 hu
        replace h:=hy132 u13 hu
        exact rf [1,2,63] [1] (j12 _ (aj h) :)
       have r13:∀r',y13=.inl r'→∀st,fx bm (c_1,cI) r' st→(fx bm (c_1,cI) r) st:=fun r' e st hq=>r12 r' (hy131 r' e) st hq
       replace h:=hy13
       refine sp 58 h rfl ?_ ?_<;>intro h
       ·refine cq 6 [63] [B true] 546 ?_
        exact rf [1,2,63] [1] (j13 _ (aj h) :)
       ·refine cq 2 [60] [I c_1.Day] 498 ?_
        obtain⟨r14,hr14,h⟩:=bS h
        refine oy 514 (B r14) rfl (cP (vw hr14)) ?_
        refine cq 3 [63] [B (!r14)] 546 ?_
        exact rf [1,2,63] [1] (j13 _ (aj h) :)
      ·refine cq 8 [58,60] [B false,I c_1.Day] 498 ?_
       obtain⟨r15,hr15,h⟩:=bS h
       refine oy 514 (B r15) rfl (cP (vw hr15)) ?_
       refine cq 3 [63] [B (!r15)] 546 ?_
       exact rf [1,2,63] [1] (j12 _ (aj h) :)
    ·refine cq 11 [48,52] [B false,B (c_1.Op != 3)] 370 ?_
     obtain⟨y16,hy16,hy161,hy162⟩:=bL h
     have j16:∀u16,y16=.inr u16→Run (mN bm) 0 (fx bm (c_1,cI) r) (.code ry::.code pY::[]) (sT 78 [(1,I (ai (cI+1))),(2,.hp 1 0 [] 4 0 0),(63,B u16)] [⟨0,4,[ao c_1]⟩] 2):=by
      intro u16 hu
      replace h:=hy162 u16 hu
      exact rf [1,2,63] [1] (j9 _ (aj h) :)
     have r16:∀r',y16=.inl r'→∀st,fx bm (c_1,cI) r' st→(fx bm (c_1,cI) r) st:=fun r' e st hq=>r9 r' (hy161 r' e) st hq
     replace h:=hy16
     refine sp 52 h rfl ?_ ?_<;>intro h
     ·refine cq 6 [58] [B (c_1.Day != 0)] 466 ?_
      obtain⟨y17,hy17,hy171,hy172⟩:=bL h
      have j17:∀u17,y17=.inr u17→Run (mN bm) 0 (fx bm (c_1,cI) r) (.code ry::.code pY::[]) (sT 78 [(1,I (ai (cI+1))),(2,.hp 1 0 [] 4 0 0),(63,B u17)] [⟨0,4,[ao c_1]⟩] 2):=by
       intro u17 hu
       replace h:=hy172 u17 hu
       exact rf [1,2,63] [1] (j16 _ (aj h) :)
      have r17:∀r',y17=.inl r'→∀st,fx bm (c_1,cI) r' st→(fx bm (c_1,cI) r) st:=fun r' e st hq=>r16 r' (hy171 r' e) st hq
      replace h:=hy17
      refine sp 58 h rfl ?_ ?_<;>intro h
      ·refine cq 6 [63] [B true] 546 ?_
       exact rf [1,2,63] [1] (j17 _ (aj h) :)
      ·refine cq 2 [60] [I c_1.Day] 498 ?_
       obtain⟨r18,hr18,h⟩:=bS h
       refine oy 514 (B r18) rfl (cP (vw hr18)) ?_
       refine cq 3 [63] [B (!r18)] 546 ?_
       exact rf [1,2,63] [1] (j17 _ (aj h) :)
     ·refine cq 8 [58,60] [B false,I c_1.Day] 498 ?_
      obtain⟨r19,hr19,h⟩:=bS h
      refine oy 514 (B r19) rfl (cP (vw hr19)) ?_
      refine cq 3 [63] [B (!r19)] 546 ?_
      exact rf [1,2,63] [1] (j16 _ (aj h) :)
 have r3:∀r',y3=.inl r'→∀st,fx bm (c_1,cI) r' st→(fx bm (c_1,cI) r) st:=fun r' e st hq=>by rw[hy31 r' e] at hq;exact hq
 replace h:=hy3
 refine sp 13 h rfl ?_ ?_<;>intro h
 ·refine dk 16 [29,28,27,26,25,24,23,22,21,20,19,18,17,16,15,14] [B true,.und,.und,.und,.und,.und,.und,.und,.und,.und,B true,B true,.und,.und,.und,.und] ?_
  refine de 417 rfl rfl ?_
  exact rf [1,2,29] [1] (j3 _ (aj h) :)
 ·refine dy [1] [] (.hp 1 0 [] 4 0 0) rfl (al rfl rfl rfl) ?_
  refine dy [1] [] (I c_1.Op) rfl (aN rfl rfl) ?_
  obtain⟨r20,hr20,h⟩:=bS h
  refine dy [] [] (B r20) rfl (cP (iI hr20)) ?_ (dF rfl rfl rfl rfl (bd (bM rfl) (bd (bM rfl) (bd (bM rfl) dx))) (iI hr20) (.inr rfl) rfl)
  refine dk 3 [19,18,17] [B (!r20),B (!r20),B (!r20)] ?_
  obtain⟨y21,hy21,hy211,hy212⟩:=bL h
  have j21:∀u21,y21=.inr u21→Run (mN bm) 0 (fx bm (c_1,cI) r) (.code (cR (cL (cR (cR (cR vv)))))::.code (cR (cR (cR (cR vv))))::[]) (sT 78 [(1,I (ai (cI+1))),(2,.hp 1 0 [] 4 0 0),(29,B u21)] [⟨0,4,[ao c_1]⟩] 2):=by
   intro u21 hu
   replace h:=hy212 u21 hu
   exact rf [1,2,29] [1] (j3 _ (aj h) :)
  have r21:∀r',y21=.inl r'→∀st,fx bm (c_1,cI) r' st→(fx bm (c_1,cI) r) st:=fun r' e st hq=>r3 r' (hy211 r' e) st hq
  replace h:=hy21
  refine sp 19 h rfl ?_ ?_<;>intro h
  ·refine dk 10 [29,28,27,26,25,24,23,22,21,20] [B true,.und,.und,.und,.und,.und,.und,.und,.und,.und] ?_
   refine de 417 rfl rfl ?_
   exact rf [1,2,29] [1] (j21 _ (aj h) :)
  ·refine dy [1] [] (.hp 1 0 [] 4 0 3) rfl (al rfl rfl rfl) ?_
   refine dy [1] [] (.isl false (c_1.Parts.map aE)) rfl (aN rfl rfl) ?_
   refine dy [] [] (I (len c_1.Parts)) rfl (bu rfl rfl rfl (bG rfl)) ?_
   refine dk 1 [23] [.hs 81 0 [] 1 0 7] ?_
   refine dy [1] [] (.hp 1 0 [] 4 0 0) rfl (al rfl rfl rfl) ?_
   refine dy [1] [] (I c_1.Op) rfl (aN rfl rfl) ?_
   obtain⟨e22,he22,h⟩:=bS h
   refine dy [81] [] (.hp 81 0 [] 1 (0+Int.toNat c_1.Op) 0) rfl (ak rfl rfl rfl (dU (f:=I) (xs:=[(-1),0,0,0,1,2,2]) rfl rfl rfl he22)) ?_
   refine dy [81] [] (I e22) rfl (aN rfl (ge (path:=[]) rfl rfl rfl aX (dh (f:=I) (xs:=[(-1),0,0,0,1,2,2]) he22) rfl rfl rfl)) ?_
   refine dk 2 [29,28] [B ((len c_1.Parts) != e22),B ((len c_1.Parts) != e22)] ?_
   refine de 417 rfl rfl ?_
   exact rf [1,2,29] [1] (j21 _ (aj h) :)
theorem X2 {G:bZ}:bV G 176 Io:=kx fun bm g_Ffn=>gT 2 0 (aO g_Ffn (aO vt (aO CP (aO jd bz)))) cd Tryz.func176 (fun a r h=>aak bm a.1 a.2 r h)
def Ka:Condition→List V:=oA bF
def Kb (r:Bool):V×List V:=(B r,[])
noncomputable def Ia :=bi [false] Ka Kb fun x=>L0 x
theorem ad9 {c_1:Condition}{r}(h:L0 c_1=some r):Ia.F (Ka c_1)=some (Kb r):=aH (aI dC) h
noncomputable def aeb :=aF Tryz.f141
noncomputable def Zo :=cb [(176,Io)]
def aea (x:Condition)(r:Bool):St→Prop:=QF Zo Tryz.f141 [false] (Ka x) (Kb r)
theorem Z7 (c_1:Condition)(r:Bool)(h:L0 c_1=some r):br Zo Tryz.f141 [false] 0 (Ka c_1) (Kb r):=by
 show Run _ _ (aea c_1 r) [.code aeb] _
 refine rI 6 [(0,ao c_1)] [] 1 ?_
 unfold L0 at h
 refine cq 8 [3] [ao c_1] 49 ?_
 obtain⟨r2,hr2,h⟩:=bS h
 refine oq 65 (I r2) rfl (cP (aek hr2)) ?_
 refine cq 3 [2] [B (decide (r2>0))] 97 ?_
 obtain rfl:=sI h
 exact rP [B (decide (r2>0))]
theorem XF {G:bZ}:bV G 141 Ia:=gT 1 0 (aO X2 bz) cd Tryz.func141 (fun a r h=>Z7 a r h)
def KE:(Contract×Int)→List V:=cA aM (oA I)
def KF (r:Bool):V×List V:=(B r,[])
noncomputable def Ir :=bi [false,false] KE KF fun x=>Mm x.1 x.2
theorem aeq {c_1:Contract}{i_2:Int}{r}(h:Mm c_1 i_2=some r):Ir.F (KE (c_1,i_2))=some (KF r):=aH (aJ aU (aI bo)) h
noncomputable def mj :=aF Tryz.f100
noncomputable abbrev Mn :=cR (cL (cR (cR (cR (cR mj)))))
noncomputable abbrev xB :=cR (cR (cR (cR (cR (cR mj)))))
noncomputable abbrev GP :=cR (cL (cR (cR (cR (cR (cR mj))))))
noncomputable abbrev Mo :=cR (cR (cR xB))
noncomputable def kn :=cb [(81,re),(99,iJ),(140,Il),(141,Ia)]
def eM (x:Contract×Int)(r:Bool):St→Prop:=QF kn Tryz.f100 [false,false] (KE x) (KF r)
theorem aap (c_1:Contract)(i_2:Int)(r:Bool)(h:Mm c_1 i_2=some r):br kn Tryz.f100 [false,false] 0 (KE (c_1,i_2)) (KF r):=by
 show Run _ _ (eM (c_1,i_2) r) [.code mj] _
 refine rI 119 [(0,aa c_1),(1,I i_2)] [] 1 ?_
 unfold Mm at h
 refine ck 10 [2,9,10] [] [1] [] [.hp 1 0 [] 2 0 0,.isl false (c_1.Clauses.map ap),I i_2] [some ⟨0,2,[aa c_1]⟩] 81 (by kernel_rfl) ?_
 obtain⟨e3,he3,h⟩:=bS h
 refine oq 97 (.iptr (au e3) 0) rfl (ak rfl rfl rfl (ba rfl rfl rfl rfl he3)) ?_
 refine ck 2 [5,12] [] [113] [] [.hp 113 0 [] 12 0 0,au e3] [some ⟨0,12,[.agg [str ([]),I (0),I (0),str ([]),I (0),I (0),I (0),str ([]),I (0),.isl true [],I (0),str ([])]]⟩] 129 (by kernel_rfl) ?_
 refine fP 113 [.agg [str ([]),I (0),I (0),str ([]),I (0),I (0),I (0),str ([]),I (0),.usl 4 (([]).map aC),I (0),str ([])]] rfl rfl (aP (hY (aP (.refl _) (aP (.refl _) (aP (.refl _) (aP (.refl _) (aP (.refl _) (aP (.refl _) (aP (.refl _) (aP (.refl _) (aP (.refl _) (aP (.nil _) (aP (.refl _) (aP (.refl _) eT))))))))))))) eT) ?_
 refine ck 6 [14] [] [113] [] [.isl false (c_1.Parties.map str)] [some ⟨2,12,[au e3]⟩] 177 (by kernel_rfl) ?_
 refine oq 193 (I (len c_1.Parties)) rfl (bu rfl rfl rfl (bG rfl)) ?_
 refine cq 8 [6,18] [I (ai ((len c_1.Parties) - 1)),str e3.Id] 257 ?_
 obtain⟨r4,hr4,h⟩:=bS h
 refine oq 273 (B r4) rfl (cP (Gy hr4)) ?_
 refine cq 2 [21] [B (!r4)] 305 ?_
 obtain⟨y5,hy5,hy51,hy52⟩:=bJ h
 have j5:∀u5,y5=.inr u5→Run kn 0 (eM (c_1,i_2) r) (.code (cR (cL (cR (cR (cR mj)))))::.code (cR (cR (cR (cR mj))))::[]) (sT 119 [(1,I i_2),(2,.hp 1 0 [] 2 0 0),(5,.hp 2 0 [] 12 0 0),(6,I (ai ((len c_1.Parties) - 1))),(40,B u5)] [⟨0,2,[aa c_1]⟩,⟨0,12,[au e3]⟩] 3):=by
  intro u5 hu
  replace h:=hy52 u5 hu
  refine sq h ?_ ?_<;>intro h
  ·refine cq 4 [4] [B false] 19 ?_
   obtain rfl:=sI h
   exact rP [B false]
  ·refine aq 1 ?_
   refine cq 6 [42,43] [I e3.Party,I (ai ((len c_1.Parties) - 1))] 51 ?_
   obtain⟨r6,hr6,h⟩:=bS h
   refine oq 67 (B r6) rfl (cP (iI hr6)) ?_
   refine cq 2 [46] [B (!r6)] 99 ?_
   obtain⟨y7,hy7,hy71,hy72⟩:=bJ h
   have j7:∀u7,y7=.inr u7→Run kn 0 (eM (c_1,i_2) r) (.code Mn::.code (cR (cR (cR (cR (cR mj)))))::[]) (sT 119 [(1,I i_2),(2,.hp 1 0 [] 2 0 0),(5,.hp 2 0 [] 12 0 0),(65,B u7)] [⟨0,2,[aa c_1]⟩,⟨0,12,[au e3]⟩] 3):=by
    intro u7 hu
    replace h:=hy72 u7 hu
    refine sq h ?_ ?_<;>intro h
    ·refine cq 4 [4] [B false] 19 ?_
     obtain rfl:=sI h
     exact rP [B false]
    ·refine aq 1 ?_
     refine cq 5 [67] [I e3.Amount] 35 ?_
     obtain⟨r8,hr8,h⟩:=bS h
     refine oq 51 (B r8) rfl (cP (iI hr8)) ?_
     refine cq 2 [70] [B (!r8)] 83 ?_
     obtain⟨y9,hy9,hy91,hy92⟩:=bJ h
     have j9:∀u9,y9=.inr u9→Run kn 0 (eM (c_1,i_2) r) (.code GP::.code xB::[]) (sT 119 [(1,I i_2),(2,.hp 1 0 [] 2 0 0),(5,.hp 2 0 [] 12 0 0),(90,B u9)] [⟨0,2,[aa c_1]⟩,⟨0,12,[au e3]⟩] 3):=by
      intro u9 hu
      replace h:=hy92 u9 hu
      refine sq h ?_ ?_<;>intro h
      ·refine cq 4 [4] [B false] 19 ?_
       obtain rfl:=sI h
       exact rP [B false]
      ·refine aq 1 ?_
       refine cq 7 [93] [B (e3.Repair==([]:ac))] 51 ?_
       refine sq h ?_ ?_<;>intro h
       ·refine cq 4 [4] [B true] 67 ?_
        obtain rfl:=sI h
        exact rP [B true]
       ·refine aq 1 ?_
        refine cq 5 [94,96] [aa c_1,str e3.Repair] 99 ?_
        obtain⟨r10,hr10,h⟩:=bS h
        refine oq 115 (I r10) rfl (cP (Zv hr10)) ?_
        refine cq 8 [7,101] [I r10,B (e3.Kind != 3)] 195 ?_
        obtain⟨y11,hy11,hy111,hy112⟩:=bJ h
        have j11:∀u11,y11=.inr u11→Run kn 0 (eM (c_1,i_2) r) (.code Mo::[]) (sT 119 [(4,B u11)] [] 1):=by
         intro u11 hu
         replace h:=hy112 u11 hu
         obtain rfl:=sI h
         exact rP [B u11]
        have r11:∀r',y11=.inl r'→∀st,eM (c_1,i_2) r' st→(eM (c_1,i_2) r) st:=fun r' e st hq=>by rw[hy111 r' e] at hq;exact hq
        replace h:=hy11
        refine sp 101 h rfl ?_ ?_<;>intro h
        ·refine cq 4 [105] [B (decide (r10≥0))] 259 ?_
         obtain⟨y12,hy12,hy121,hy122⟩:=bL h
         have j12:∀u12,y12=.inr u12→Run kn 0 (eM (c_1,i_2) r) (.code Mo::[]) (sT 119 [(4,B u12)] [] 1):=by
          intro u12 hu
          replace h:=hy122 u12 hu
          exact rf [4] [] (j11 _ (aj h) :)
         have r12:∀r',y12=.inl r'→∀st,eM (c_1,i_2) r' st→(eM (c_1,i_2) r) st:=fun r' e st hq=>r11 r' (hy121 r' e) st hq
         replace h:=hy12
         refine sp 105 h rfl ?_ ?_<;>intro h
         ·refine cq 5 [110] [B (r10 != i_2)] 339 ?_
          obtain⟨y13,hy13,hy131,hy132⟩:=bL h
          have j13:∀u13,y13=.inr u13→Run kn 0 (eM (c_1,i_2) r) (.code Mo::[]) (sT 119 [(4,B u13)] [] 1):=by
           intro u13 hu
           replace h:=hy132 u13 hu
           exact rf [4] [] (j12 _ (aj h) :)
          have r13:∀r',y13=.inl r'→∀st,eM (c_1,i_2) r' st→(eM (c_1,i_2) r) st:=fun r' e st hq=>r12 r' (hy131 r' e) st hq
          replace h:=hy13
          refine sp 110 h rfl ?_ ?_<;>intro h
          ·refine cq 3 [112,113] [.isl false (c_1.Clauses.map ap),I r10] 387 ?_
           obtain⟨e14,he14,h⟩:=bS h
           refine oy 403 (.iptr (au e14) 0) rfl (ak rfl rfl rfl (ba rfl rfl rfl rfl he14)) ?_
           refine cq 6 [4] [B (e14.Kind==1)] 483 ?_
           exact rf [4] [] (j13 _ (aj h) :)
          ·refine cq 10 [4] [B false] 483 ?_
           exact rf [4] [] (j13 _ (aj h) :)
         ·refine cq 15 [4] [B false] 483 ?_
          exact rf [4] [] (j12 _ (aj h) :)
        ·refine cq 19 [4] [B false] 483 ?_
         exact rf [4] [] (j11 _ (aj h) :)
     have r9:∀r',y9=.inl r'→∀st,eM (c_1,i_2) r' st→(eM (c_1,i_2) r) st:=fun r' e st hq=>by rw[hy91 r' e] at hq;exact hq
     replace h:=hy9
     refine sp 70 h rfl ?_ ?_<;>intro h
     ·refine cq 21 [90] [B true] 403 ?_
      exact rf [1,2,5,90] [1,2] (j9 _ (aj h) :)
     ·refine cq 2 [72] [I e3.Within] 115 ?_
      obtain⟨r15,hr15,h⟩:=bS h
      refine oy 131 (B r15) rfl (cP (iI hr15)) ?_
      refine cq 3 [76] [B (!r15)] 179 ?_
      obtain⟨u16,hu16,h⟩:=lJ h
      have j16:Run kn 0 (eM (c_1,i_2) r) (.code GP::.code xB::[]) (sT 119 [(1,I i_2),(2,.hp 1 0 [] 2 0 0),(5,.hp 2 0 [] 12 0 0),(90,B u16)] [⟨0,2,[aa c_1]⟩,⟨0,12,[au e3]⟩] 3):=by
       exact rf [1,2,5,90] [1,2] (j9 _ (aj h) :)
      replace h:=hu16
      clear hu16
      refine sp 76 h rfl ?_ ?_<;>intro h
      ·refine cq 15 [90] [B true] 403 ?_
       subst h
       exact rf [1,2,5,90] [1,2] (j16 :)
      ·refine cq 4 [80] [B (e3.Kind != 1)] 243 ?_
       obtain⟨u17,hu17,h⟩:=lJ h
       have j17:Run kn 0 (eM (c_1,i_2) r) (.code GP::.code xB::[]) (sT 119 [(1,I i_2),(2,.hp 1 0 [] 2 0 0),(5,.hp 2 0 [] 12 0 0),(90,B u17)] [⟨0,2,[aa c_1]⟩,⟨0,12,[au e3]⟩] 3):=by
        subst h
        exact rf [1,2,5,90] [1,2] (j16 :)
       replace h:=hu17
       clear hu17
       refine sp 80 h rfl ?_ ?_<;>intro h
       ·refine cq 4 [84] [B (e3.Amount != 0)] 307 ?_
        obtain⟨u18,hu18,h⟩:=lJ h
        have j18:Run kn 0 (eM (c_1,i_2) r) (.code GP::.code xB::[]) (sT 119 [(1,I i_2),(2,.hp 1 0 [] 2 0 0),(5,.hp 2 0 [] 12 0 0),(90,B u18)] [⟨0,2,[aa c_1]⟩,⟨0,12,[au e3]⟩] 3):=by
         subst h
         exact rf [1,2,5,90] [1,2] (j17 :)
        replace h:=hu18
        clear hu18
        refine sp 84 h rfl ?_ ?_<;>intro h
        ·refine cq 7 [90] [B true] 403 ?_
         subst h
         exact rf [1,2,5,90] [1,2] (j18 :)
        ·refine cq 7 [90] [B (e3.Within != 0)] 403 ?_
         subst h
         exact rf [1,2,5,90] [1,2] (j18 :)
       ·refine cq 11 [90] [B false] 403 ?_
        subst h
        exact rf [1,2,5,90] [1,2] (j17 :)
   have r7:∀r',y7=.inl r'→∀st,eM (c_1,i_2) r' st→(eM (c_1,i_2) r) st:=fun r' e st hq=>by rw[hy71 r' e] at hq;exact hq
   replace h:=hy7
   refine sp 46 h rfl ?_ ?_<;>intro h
   ·refine cq 20 [65] [B true] 403 ?_
    exact rf [1,2,5,65] [1,2] (j7 _ (aj h) :)
   ·refine cq 3 [48,49] [I e3.Other,I (ai ((len c_1.Parties) - 1))] 147 ?_
    obtain⟨r19,hr19,h⟩:=bS h
    refine oy 163 (B r19) rfl (cP (iI hr19)) ?_
    refine cq 3 [53] [B (!r19)] 211 ?_
    obtain⟨y20,hy20,hy201,hy202⟩:=bL h
    have j20:∀u20,y20=.inr u20→Run kn 0 (eM (c_1,i_2) r) (.code Mn::.code (cR (cR (cR (cR (cR mj)))))::[]) (sT 119 [(1,I i_2),(2,.hp 1 0 [] 2 0 0),(5,.hp 2 0 [] 12 0 0),(65,B u20)] [⟨0,2,[aa c_1]⟩,⟨0,12,[au e3]⟩] 3):=by
     intro u20 hu
     replace h:=hy202 u20 hu
     exact rf [1,2,5,65] [1,2] (j7 _ (aj h) :)
    have r20:∀r',y20=.inl r'→∀st,eM (c_1,i_2) r' st→(eM (c_1,i_2) r) st:=fun r' e st hq=>r7 r' (hy201 r' e) st hq
    replace h:=hy20
    refine sp 53 h rfl ?_ ?_<;>intro h
    ·refine cq 13 [65] [B true] 403 ?_
     exact rf [1,2,5,65] [1,2] (j20 _ (aj h) :)
    ·refine cq 7 [60] [B (e3.Party==e3.Other)] 323 ?_
     obtain⟨y21,hy21,hy211,hy212⟩:=bL h
     have j21:∀u21,y21=.inr u21→Run kn 0 (eM (c_1,i_2) r) (.code Mn::.code (cR (cR (cR (cR (cR mj)))))::[]) (sT 119 [(1,I i_2),(2,.hp 1 0 [] 2 0 0),(5,.hp 2 0 [] 12 0 0),(65,B u21)] [⟨0,2,[aa c_1]⟩,⟨0,12,[au e3]⟩] 3):=by
      intro u21 hu
      replace h:=hy212 u21 hu
      exact rf [1,2,5,65] [1,2] (j20 _ (aj h) :)
     have r21:∀r',y21=.inl r'→∀st,eM (c_1,i_2) r' st→(eM (c_1,i_2) r) st:=fun r' e st hq=>r20 r' (hy211 r' e) st hq
     replace h:=hy21
     refine sp 60 h rfl ?_ ?_<;>intro h
     ·refine cq 6 [65] [B true] 403 ?_
      exact rf [1,2,5,65] [1,2] (j21 _ (aj h) :)
     ·refine cq 2 [62] [ao e3.When] 355 ?_
      obtain⟨r22,hr22,h⟩:=bS h
      refine oy 371 (B r22) rfl (cP (ad9 hr22)) ?_
      refine cq 3 [65] [B (!r22)] 403 ?_
      exact rf [1,2,5,65] [1,2] (j21 _ (aj h) :)
 have r5:∀r',y5=.inl r'→∀st,eM (c_1,i_2) r' st→(eM (c_1,i_2) r) st:=fun r' e st hq=>by rw[hy51 r' e] at hq;exact hq
 replace h:=hy5
 refine sp 21 h rfl ?_ ?_<;>intro h
 ·refine cq 20 [40] [B true] 609 ?_
  exact rf [1,2,5,6,40] [1,113] (j5 _ (aj h) :)
 ·refine cq 3 [22,24] [aa c_1,str e3.Id] 353 ?_
  obtain⟨r23,hr23,h⟩:=bS h
  refine oy 369 (I r23) rfl (cP (Zv hr23)) ?_
  refine cq 4 [29] [B (r23 != i_2)] 433 ?_
  obtain⟨y24,hy24,hy241,hy242⟩:=bL h
  have j24:∀u24,y24=.inr u24→Run kn 0 (eM (c_1,i_2) r) (.code (cR (cL (cR (cR (cR mj)))))::.code (cR (cR (cR (cR mj))))::[]) (sT 119 [(1,I i_2),(2,.hp 1 0 [] 2 0 0),(5,.hp 2 0 [] 12 0 0),(6,I (ai ((len c_1.Parties) - 1))),(40,B u24)] [⟨0,2,[aa c_1]⟩,⟨0,12,[au e3]⟩] 3):=by
   intro u24 hu
   replace h:=hy242 u24 hu
   exact rf [1,2,5,6,40] [1,2] (j5 _ (aj h) :)
  have r24:∀r',y24=.inl r'→∀st,eM (c_1,i_2) r' st→(eM (c_1,i_2) r) st:=fun r' e st hq=>r5 r' (hy241 r' e) st hq
  replace h:=hy24
  refine sp 29 h rfl ?_ ?_<;>intro h
  ·refine cq 12 [40] [B true] 609 ?_
   exact rf [1,2,5,6,40] [1,113] (j24 _ (aj h) :)
  ·refine cq 2 [31] [str e3.Action] 465 ?_
   obtain⟨r25,hr25,h⟩:=bS h
   refine oy 481 (B r25) rfl (cP (Gy hr25)) ?_
   refine cq 3 [35] [B (!r25)] 529 ?_
   obtain⟨y26,hy26,hy261,hy262⟩:=bL h
   have j26:∀u26,y26=.inr u26→Run kn 0 (eM (c_1,i_2) r) (.code (cR (cL (cR (cR (cR mj)))))::.code (cR (cR (cR (cR mj))))::[]) (sT 119 [(1,I i_2),(2,.hp 1 0 [] 2 0 0),(5,.hp 2 0 [] 12 0 0),(6,I (ai ((len c_1.Parties) - 1))),(40,B u26)] [⟨0,2,[aa c_1]⟩,⟨0,12,[au e3]⟩] 3):=by
    intro u26 hu
    replace h:=hy262 u26 hu
    exact rf [1,2,5,6,40] [1,2] (j24 _ (aj h) :)
   have r26:∀r',y26=.inl r'→∀st,eM (c_1,i_2) r' st→(eM (c_1,i_2) r) st:=fun r' e st hq=>r24 r' (hy261 r' e) st hq
   replace h:=hy26
   refine sp 35 h rfl ?_ ?_<;>intro h
   ·refine cq 6 [40] [B true] 609 ?_
    exact rf [1,2,5,6,40] [1,113] (j26 _ (aj h) :)
   ·refine cq 2 [37] [I e3.Kind] 561 ?_
    obtain⟨r27,hr27,h⟩:=bS h
    refine oy 577 (B r27) rfl (cP (iI hr27)) ?_
    refine cq 3 [40] [B (!r27)] 609 ?_
    exact rf [1,2,5,6,40] [1,113] (j26 _ (aj h) :)
theorem X5 {G:bZ}:bV G 100 Ir:=gT 2 0 (aO vt (aO jd (aO X0 (aO XF bz)))) cd Tryz.func100 (fun a r h=>aap a.1 a.2 r h)
def GC:(Condition×(List ac))→List V:=cA bF (oA (rV 1 str))
def GE (r:(List ac)):V×List V:=(.usl 1 (r.map str),[.dead])
noncomputable def CN (cF:(Condition×(List ac))→Option (List ac)):Ent:=bi [false,true] GC GE cF
theorem UW (cF:(Condition×(List ac))→Option (List ac)){x}{r}(h:cF x=some r):(CN cF).F (GC x)=some (GE r):=aH (aJ dC (aI (jc bT))) h
noncomputable def Ii :=CN (aL ov)
theorem Zq {c_3:Condition}{dR:List ac}{r}(h:UV c_3 dR=some r):Ii.F (GC (c_3,dR))=some (GE r):=UW (aL ov) h
noncomputable def Ql :=aF Tryz.f142
noncomputable def Kl (cF:(Condition×(List ac))→Option (List ac)):Env:=cb [(142,(CN cF))]
def GD (cF:(Condition×(List ac))→Option (List ac))(x:Condition×(List ac))(r:(List ac)):St→Prop:=QF (Kl cF) Tryz.f142 [false,true] (GC x) (GE r)
theorem Qm (cF:(Condition×(List ac))→Option (List ac))(c_3:Condition)(dR:List ac):ch (Kl cF) 1 (GD cF (c_3,dR)) (cL (cL (cR (cL (cR (cR Ql)))))) 0 (ow cF c_3 dR) (fun u=>(sO 27 [(1,.hs 2 0 [] 1 0 (u.map str).length)] [none,some ⟨0,1,u.map str⟩] 3)) fun x4=>(sO 27 [(1,.hs 2 0 [] 1 0 (x4.2.map str).length),(16,.isl false (c_3.Parts.map aE)),(17,I (len c_3.Parts)),(18,I x4.1)] [none,some ⟨0,1,x4.2.map str⟩] 3):=eg (GF cF c_3 dR) fun {Q K} hK self ih x4 y h hr hn=>by
 unfold lO at h
 refine cq 5 [19] [B (decide (x4.1<(len c_3.Parts)))] 19 ?_
 refine sq h ?_ ?_<;>intro h
 ·refine aq 1 ?_
  refine aq 4 ?_
  obtain⟨e5,he5,h⟩:=bS h
  refine oq 35 (.iptr (ao e5) 0) rfl (ak rfl rfl rfl (ba rfl rfl (dA e5) rfl he5)) ?_
  refine ck 2 [6,21] [] [51] [] [.hp 51 0 [] 4 0 0,ao e5] [some ⟨0,4,[.agg [I (0),str ([]),I (0),.isl true []]]⟩] 67 (by kernel_rfl) ?_
  refine fP 51 [.agg [I (0),str ([]),I (0),.usl 4 (([]).map aC)]] rfl rfl (aP (hY (aP (.refl _) (aP (.refl _) (aP (.refl _) (aP (.nil _) eT))))) eT) ?_
  refine ck 5 [22,23] [] [51] [] [ao e5,.hs 2 0 [] 1 0 (x4.2.map str).length] [some ⟨2,4,[ao e5]⟩] 115 (by kernel_rfl) ?_
  obtain⟨r6,hr6,h⟩:=bS h
  refine oq 131 (.hs 115 0 [] 1 0 (r6.map str).length) rfl (b8 rfl rfl (cu rfl rfl rfl (bd (bM rfl) (li (ki rfl (gb (path:=[]) rfl rfl aX rfl)) dx)) (UW cF hr6) (.inr rfl) (ju rfl rfl rfl nW ec) rfl rfl rfl)) ?_
  refine cq 7 [1,18] [.hs 115 0 [] 1 0 (r6.map str).length,I (ai (x4.1+1))] 179 ?_
  refine cZ ?_
  exact rg [1,16,17,18] [180,115] (ih _ _ h hr hn :)
 ·refine aq 1 ?_
  exact rg [1] [20,2] (hn _ (aj h) :) (hk:=hK)
theorem aae (cF:(Condition×(List ac))→Option (List ac))(c_3:Condition)(dR:List ac)(r:(List ac))(h:yG cF c_3 dR=some r):br (Kl cF) Tryz.f142 [false,true] 1 (GC (c_3,dR)) (GE r):=by
 show Run _ _ (GD cF (c_3,dR) r) [.code Ql] _
 refine rI 27 [(0,ao c_3),(1,.hs 1 0 [] 1 0 (dR.map str).length)] [(1,some ⟨0,1,dR.map str⟩)] 2 ?_
 unfold yG at h
 refine ck 12 [2,9] [] [2] [] [.hp 2 0 [] 4 0 0,B (c_3.Op==2)] [some ⟨0,4,[ao c_3]⟩] 82 (by kernel_rfl) ?_
 obtain⟨y3,hy3,hy31,hy32⟩:=bJ h
 have j3:∀u3,y3=.inr u3→Run (Kl cF) 1 (GD cF (c_3,dR) r) (.code (cR (cR Ql))::[]) (sO 27 [(1,.hs 2 0 [] 1 0 (u3.map str).length),(2,.hp 3 0 [] 4 0 0)] [none,some ⟨0,1,u3.map str⟩,some ⟨0,4,[ao c_3]⟩] 4):=by
  intro u3 hu
  replace h:=hy32 u3 hu
  refine cq 5 [16] [.isl false (c_3.Parts.map aE)] 36 ?_
  refine oq 52 (I (len c_3.Parts)) rfl (bu rfl rfl rfl (bG rfl)) ?_
  refine cq 3 [18] [I (0)] 68 ?_
  obtain⟨y7,hy7,hy71,hy72⟩:=bJ h
  refine bN rfl ?_
  refine rg [1,16,17,18] [69,2] (Qm cF c_3 dR rfl (0,u3) _ hy7 (fun r' e st hq=>by rw[hy71 r' e] at hq;exact hq) fun u7 hu=>?_)
  replace h:=hy72 u7 hu
  refine cq 5 [4] [.hs 2 0 [] 1 0 (u7.map str).length] 35 ?_
  obtain rfl:=sI h
  exact cr rfl ⟨_,fin (vs:=[.hs 2 0 [] 1 0 (u7.map str).length]) rfl (gC (gk rfl (dZ rfl rfl)) eI) rfl (dw (lY rfl (qM rfl) fD)),vP fz⟩
 have r3:∀r',y3=.inl r'→∀st,GD cF (c_3,dR) r' st→(GD cF (c_3,dR) r) st:=fun r' e st hq=>by rw[hy31 r' e] at hq;exact hq
 replace h:=hy3
 refine sq h ?_ ?_<;>intro h
 ·refine cq 4 [10,12] [.hs 1 0 [] 1 0 (dR.map str).length,str c_3.Name] 130 ?_
  refine oq 146 (.hs 130 0 [] 1 0 1) rfl (eW rfl (mo (f:=I) (xs:=[]) (z:=str ([])) (es:=[str c_3.Name]) (ws:=[str c_3.Name]) rfl rfl rfl (by decide) rfl (d9 rfl) rfl)) ?_
  obtain⟨a8,ha8,h⟩:=bS h
  refine oq 162 (.hs 146 0 [] 1 0 (a8.map str).length) rfl (ks rfl rfl rfl rfl rfl (oz (path:=[]) (f:=str) (xs:=dR) (ys:=[c_3.Name]) rfl rfl (uT rfl rfl rfl) rfl rfl rfl aX rfl (by decide) l9 ha8 rfl rU)) ?_
  refine cq 2 [1] [.hs 146 0 [] 1 0 (a8.map str).length] 178 ?_
  exact rg [1,2] [179,146,2] (j3 _ (aj h) :)
 ·refine aq 1 ?_
  exact rg [1,2] [83,1,2] (j3 _ (aj h) :)
theorem XX {G:bZ}:bV G 142 Ii:=kx fun cF g_Ffi=>gT 2 1 (aO g_Ffi bz) cd Tryz.func142 (fun a r h=>aae cF a.1 a.2 r h)
def NE:Shelf.Ren:=⟨fun | 190=>177 | 125=>192 | 258=>191 | 128=>214 | 129=>215 | 302=>205 | 303=>206 | 304=>207 | 305=>208 | 306=>209 | 307=>210 | 308=>211 | 309=>212 | 310=>213 | 333=>226 | 329=>227 | 330=>228 | 334=>229 | 335=>230 | 336=>231 | 344=>236 | n=>n,fun | 31=>22 | 9=>9 | 3=>3 | 46=>158 | 0=>0 | 51=>195 | 53=>181 | 4=>4 | 183=>188 | 182=>187 | 131=>43 | 5=>5 | 218=>199 | 222=>203 | 228=>211 | 229=>212 | n=>n,fun | n=>n⟩
theorem Zd:Go.Proofs.Lays.n190 Tryz.prog NE where
 mixed:=by kernel_rfl
 f125:=Tryz.func192.trans (congrArg some (by kernel_rfl))
 f128:=Tryz.func214.trans (congrArg some (by kernel_rfl))
 f129:=Tryz.func215.trans (congrArg some (by kernel_rfl))
 f190:=Tryz.func177.trans (congrArg some (by kernel_rfl))
 f258:=Tryz.func191.trans (congrArg some (by kernel_rfl))
 f302:=Tryz.func205.trans (congrArg some (by kernel_rfl))
 f303:=Tryz.func206.trans (congrArg some (by kernel_rfl))
 f304:=Tryz.func207.trans (congrArg some (by kernel_rfl))
 f305:=Tryz.func208.trans (congrArg some (by kernel_rfl))
 f306:=Tryz.func209.trans (congrArg some (by kernel_rfl))
 f307:=Tryz.func210.trans (congrArg some (by kernel_rfl))
 f308:=Tryz.func211.trans (congrArg some (by kernel_rfl))
 f309:=Tryz.func212.trans (congrArg some (by kernel_rfl))
 f310:=Tryz.func213.trans (congrArg some (by kernel_rfl))
 f329:=Tryz.func227.trans (congrArg some (by kernel_rfl))
 f330:=Tryz.func228.trans (congrArg some (by kernel_rfl))
 f333:=Tryz.func226.trans (congrArg some (by kernel_rfl))
 f334:=Tryz.func229.trans (congrArg some (by kernel_rfl))
 f335:=Tryz.func230.trans (congrArg some (by kernel_rfl))
 f336:=Tryz.func231.trans (congrArg some (by kernel_rfl))
 f344:=Tryz.func236.trans (congrArg some (by kernel_rfl))
 t0:=Tryz.underlying0
 a0:=Tryz.isAgg0
 z0:=Tryz.sizeOf0
 v0:=Tryz.zeroValue0
 t3:=Tryz.underlying3
 a3:=Tryz.isAgg3
 z3:=Tryz.sizeOf3
 v3:=Tryz.zeroValue3
 t4:=Tryz.underlying4
 a4:=Tryz.isAgg4
 z4:=Tryz.sizeOf4
 v4:=Tryz.zeroValue4
 t5:=Tryz.underlying5
 a5:=Tryz.isAgg5
 z5:=Tryz.sizeOf5
 v5:=Tryz.zeroValue5
 t9:=Tryz.underlying9
 a9:=Tryz.isAgg9
 z9:=Tryz.sizeOf9
 v9:=Tryz.zeroValue9
 t31:=Tryz.underlying22
 a31:=Tryz.isAgg22
 z31:=Tryz.sizeOf22
 v31:=Tryz.zeroValue22
 t46:=Tryz.underlying158
 a46:=Tryz.isAgg158
 z46:=Tryz.sizeOf158
 v46:=Tryz.zeroValue158
 t51:=Tryz.underlying195
 a51:=Tryz.isAgg195
 z51:=Tryz.sizeOf195
 v51:=Tryz.zeroValue195
 t53:=Tryz.underlying181
 a53:=Tryz.isAgg181
 z53:=Tryz.sizeOf181
 v53:=Tryz.zeroValue181
 t131:=Tryz.underlying43
 a131:=Tryz.isAgg43
 z131:=Tryz.sizeOf43
 v131:=Tryz.zeroValue43
 t182:=Tryz.underlying187
 a182:=Tryz.isAgg187
 z182:=Tryz.sizeOf187
 v182:=Tryz.zeroValue187
 t183:=Tryz.underlying188
 a183:=Tryz.isAgg188
 z183:=Tryz.sizeOf188
 v183:=Tryz.zeroValue188
 t218:=Tryz.underlying199
 a218:=Tryz.isAgg199
 z218:=Tryz.sizeOf199
 v218:=Tryz.zeroValue199
 t222:=Tryz.underlying203
 a222:=Tryz.isAgg203
 z222:=Tryz.sizeOf203
 v222:=Tryz.zeroValue203
 t228:=Tryz.underlying211
 a228:=Tryz.isAgg211
 z228:=Tryz.sizeOf211
 v228:=Tryz.zeroValue211
 t229:=Tryz.underlying212
 a229:=Tryz.isAgg212
 z229:=Tryz.sizeOf212
 v229:=Tryz.zeroValue212
noncomputable def we :=bi [true] (oA (rV 1 str)) (fun r=>(.tup [],[.usl 1 (r.map str)])) uW
theorem Zc {l:List ac}{r}(h:uW l=some r):we.F [.usl 1 (l.map str)]=some (.tup [],[.usl 1 (r.map str)]):=aH (ea:=oA (rV 1 str)) (aI (jc bT)) h
theorem O0 {G:bZ}:bV G 177 we:=QR Zd
def Er:(List ac)→List V:=oA (rV 1 str)
def Et (r:(List ac)):V×List V:=(.usl 1 (r.map str),[.dead])
noncomputable def BN :=bi [true] Er Et fun x=>BM x
theorem acx {s_2:List ac}{r}(h:BM s_2=some r):BN.F (Er s_2)=some (Et r):=aH (aI (jc bT)) h
noncomputable def Lx :=aF Tryz.f178
noncomputable abbrev HT :=cL (cL (cR (cL (cR (cL (cR (cL (cL (cR (cL (cL (cR (cL (cR (cR Lx)))))))))))))))
noncomputable def wQ :=cb []
def Es (x:(List ac))(r:(List ac)):St→Prop:=QF wQ Tryz.f178 [true] (Er x) (Et r)
theorem NV (s_2:List ac)(x2:Int):ch wQ 1 (Es s_2) HT 2 (kQ s_2 x2) (fun u=>(sO 61 [(0,.hs 2 0 [] 1 0 (u.2.map str).length),(3,I u.1)] [none,some ⟨0,1,u.2.map str⟩] 3)) fun x6=>(sO 61 [(0,.hs 2 0 [] 1 0 (x6.2.2.map str).length),(3,I x6.1),(4,.hs 2 0 [] 1 (0+Int.toNat x2) (Int.toNat (len s_2) - Int.toNat x2)),(5,I x6.2.1)] [none,some ⟨0,1,x6.2.2.map str⟩] 3):=eg (zq s_2 x2) fun {Q K} hK self ih x6 y h hr hn=>by
 unfold lx at h
 refine cq 8 [32] [B (decide (x6.2.1<(((Int.toNat (len s_2) - Int.toNat x2):Nat):Int)))] 67 ?_
 refine sq h ?_ ?_<;>intro h
 ·refine aq 1 ?_
  refine aq 3 ?_
  refine dK [0,0,3,7,0,0,32,112,240,511] rfl (by decide +kernel) ?_
  refine dk 2 [36,35] [I x6.2.1,.hs 2 0 [] 1 (0+Int.toNat x2) (Int.toNat (len s_2) - Int.toNat x2)] ?_
  obtain⟨e7,he7,h⟩:=bS h
  refine dq [2] [] (.hp 2 0 [] 1 ((0+Int.toNat x2)+Int.toNat x6.2.1) 0) rfl (ak rfl rfl rfl (Q0 (xs:=x6.2.2) rfl rfl he7)) ?_
  refine dq [2] [] (str e7) rfl (aN rfl (ge (path:=[]) rfl rfl rfl aX (MX (f:=str) (xs:=x6.2.2) he7) rfl rfl rfl)) ?_
  refine dk 3 [41,40,39] [I (ai (x6.2.1 - 1)),I x6.2.1,.hs 2 0 [] 1 (0+Int.toNat x2) (Int.toNat (len s_2) - Int.toNat x2)] ?_
  obtain⟨e8,he8,h⟩:=bS h
  refine dq [2] [] (.hp 2 0 [] 1 ((0+Int.toNat x2)+Int.toNat (ai (x6.2.1 - 1))) 0) rfl (ak rfl rfl rfl (Q0 (xs:=x6.2.2) rfl rfl he8)) ?_
  refine dq [2] [] (str e8) rfl (aN rfl (ge (path:=[]) rfl rfl rfl aX (MX (f:=str) (xs:=x6.2.2) he8) rfl rfl rfl)) ?_
  refine dk 1 [44] [B (!(e7==e8))] ?_
  refine de 227 rfl rfl ?_
  obtain⟨y9,hy9,hy91,hy92⟩:=bL h
  have j9:∀u9,y9=.inr u9→Run wQ 1 Q (.blk 3::.code (cR (cR HT))::.lp HT::.blk 2::K) (sO 61 [(0,.hs 2 0 [] 1 0 (u9.2.map str).length),(3,I u9.1),(4,.hs 2 0 [] 1 (0+Int.toNat x2) (Int.toNat (len s_2) - Int.toNat x2)),(5,I x6.2.1)] [none,some ⟨0,1,u9.2.map str⟩] 3):=by
   intro u9 hu
   replace h:=hy92 u9 hu
   refine cq 6 [5] [I (ai (x6.2.1+1))] 51 ?_
   refine cZ ?_
   exact rg [0,3,4,5] [52,2] (ih _ _ h hr hn :)
  have r9:∀r',y9=.inl r'→∀st,Es s_2 r' st→Q st:=fun r' e st hq=>hr r' (hy91 r' e) st hq
  replace h:=hy9
  refine sq h ?_ ?_<;>intro h
  ·refine cq 6 [45,46,47,48] [.hs 2 0 [] 1 0 (x6.2.2.map str).length,I x6.1,.hs 2 0 [] 1 (0+Int.toNat x2) (Int.toNat (len s_2) - Int.toNat x2),I x6.2.1] 291 ?_
   obtain⟨e10,he10,h⟩:=bS h
   refine oq 307 (.hp 2 0 [] 1 ((0+Int.toNat x2)+Int.toNat x6.2.1) 0) rfl (ak rfl rfl rfl (Q0 (xs:=x6.2.2) rfl rfl he10)) ?_
   refine oq 323 (str e10) rfl (aN rfl (ge (path:=[]) rfl rfl rfl aX (MX (f:=str) (xs:=x6.2.2) he10) rfl rfl rfl)) ?_
   obtain⟨e11,he11,h⟩:=bS h
   refine oq 339 (.hp 2 0 [] 1 (0+Int.toNat x6.1) 0) rfl (ak rfl rfl rfl (dU (f:=str) (xs:=x6.2.2) rfl rfl rfl he11)) ?_
   refine o0 355 rfl rfl (fW rfl rfl (fh (path:=[]) (pl:=true) (e':=str e10) (es2':=(dj x6.2.2 x6.1 e10).map str) rfl (dT rfl) rfl rfl rfl aX (dh (f:=str) (xs:=x6.2.2) he11) rfl rfl rfl (iH (f:=str) (xs:=x6.2.2) (y:=e10)) eG 0 rfl)) ?_
   try rw[←gR (f:=str) (xs:=x6.2.2) (i:=x6.1) (z:=e10)]
   refine cq 6 [3] [I (ai (x6.1+1))] 403 ?_
   exact rg [0,3,4,5] [404,2] (j9 _ (aj h) :)
  ·refine aq 1 ?_
   exact rg [0,3,4,5] [228,2] (j9 _ (aj h) :)
 ·refine aq 1 ?_
  exact rg [0,3] [68,2] (hn _ (aj h) :) (hk:=hK)
theorem NU (s_2:List ac):ch wQ 1 (Es s_2) (cL (cL (cR (cL (cR (cR Lx)))))) 0 (qW s_2) (fun u=>(sO 61 [(0,.hs 2 0 [] 1 0 (u.map str).length)] [none,some ⟨0,1,u.map str⟩] 3)) fun x2=>(sO 61 [(0,.hs 2 0 [] 1 0 (s_2.map str).length),(3,I x2)] [none,some ⟨0,1,s_2.map str⟩] 3):=eg (zp s_2) fun {Q K} hK self ih x2 y h hr hn=>by
 unfold lw at h
 refine cq 5 [10,11] [I x2,.hs 2 0 [] 1 0 (s_2.map str).length] 35 ?_
 refine oq 51 (I (len s_2)) rfl (bu rfl rfl rfl (vQ (f:=str) (xs:=s_2) rfl rfl)) ?_
 refine cq 2 [13] [B (decide (x2<(len s_2)))] 67 ?_
 refine sq h ?_ ?_<;>intro h
 ·refine aq 1 ?_
  refine aq 3 ?_
  refine dK [0,0,3,7,0,0,32,112,240,511] rfl (by decide +kernel) ?_
  refine dk 2 [17,16] [I x2,.hs 2 0 [] 1 0 (s_2.map str).length] ?_
  obtain⟨e3,he3,h⟩:=bS h
  refine dq [2] [] (.hp 2 0 [] 1 (0+Int.toNat x2) 0) rfl (ak rfl rfl rfl (dU (f:=str) (xs:=s_2) rfl rfl rfl he3)) ?_
  refine dq [2] [] (str e3) rfl (aN rfl (ge (path:=[]) rfl rfl rfl aX (dh (f:=str) (xs:=s_2) he3) rfl rfl rfl)) ?_
  refine dk 3 [22,21,20] [I (ai (x2 - 1)),I x2,.hs 2 0 [] 1 0 (s_2.map str).length] ?_
  obtain⟨e4,he4,h⟩:=bS h
  refine dq [2] [] (.hp 2 0 [] 1 (0+Int.toNat (ai (x2 - 1))) 0) rfl (ak rfl rfl rfl (dU (f:=str) (xs:=s_2) rfl rfl rfl he4)) ?_
  refine dq [2] [] (str e4) rfl (aN rfl (ge (path:=[]) rfl rfl rfl aX (dh (f:=str) (xs:=s_2) he4) rfl rfl rfl)) ?_
  refine dk 1 [25] [B (e3==e4)] ?_
  refine de 227 rfl rfl ?_
  refine sq h ?_ ?_<;>intro h
  ·refine cq 4 [26,27] [.hs 2 0 [] 1 0 (s_2.map str).length,I x2] 259 ?_
   obtain⟨s5,hs5,h⟩:=bS h
   refine oq 275 (.hs 2 0 [] 1 (0+Int.toNat x2) (Int.toNat (len s_2) - Int.toNat x2)) rfl (il rfl rfl rfl rfl (uR (f:=str) (xs:=s_2) rfl rfl rfl rfl (Yi rfl) hs5)) ?_
   refine cq 8 [4,5] [.hs 2 0 [] 1 (0+Int.toNat x2) (Int.toNat (len s_2) - Int.toNat x2),I (1)] 307 ?_
   obtain⟨y15,hy15,hy151,hy152⟩:=bL h
   refine bN rfl ?_
   refine rg [0,3,4,5] [308,2] (NV s_2 x2 rfl (x2,1,s_2) _ hy15 (fun r' e st hq=>hr r' (hy151 r' e) st hq) fun u15 hu=>?_)
   replace h:=hy152 u15 hu
   refine cq 4 [54,55] [.hs 2 0 [] 1 0 (u15.2.map str).length,I u15.1] 35 ?_
   obtain⟨s16,hs16,h⟩:=bS h
   refine oq 51 (.hs 2 0 [] 1 (0+Int.toNat u15.1) (Int.toNat (len u15.2) - Int.toNat u15.1)) rfl (il rfl rfl rfl rfl (uR (f:=str) (xs:=u15.2) rfl rfl rfl rfl (Yi rfl) hs16)) ?_
   obtain⟨k17,hk17,h⟩:=bS h
   refine o0 67 rfl rfl (aaK rfl rfl (aeF (f:=str) (xs:=u15.2) (z0:=[]) rfl rfl rfl rfl (by decide) ni hk17)) ?_
   try rw[show (u15.2.map str).length=(k17.map str).length from aaG hk17]
   refine cq 5 [57,58] [.hs 2 0 [] 1 0 (k17.map str).length,I u15.1] 99 ?_
   obtain⟨s18,hs18,h⟩:=bS h
   refine oq 115 (.hs 2 0 [] 1 (0+Int.toNat (0)) (Int.toNat u15.1 - Int.toNat (0))) rfl (il rfl rfl rfl rfl (uR (f:=str) (xs:=k17) rfl rfl rfl rfl rfl hs18)) ?_
   refine cq 2 [2] [.hs 2 0 [] 1 (0+Int.toNat (0)) (Int.toNat u15.1 - Int.toNat (0))] 131 ?_
   obtain⟨p19,hp19,h⟩:=bS h
   exact cr rfl (hr _ (aj h) _ ⟨_,fin (vs:=[.hs 2 0 [] 1 (0+Int.toNat (0)) (Int.toNat u15.1 - Int.toNat (0))]) rfl (gC (gk rfl (U4 (path:=[]) (f:=str) (xs:=k17) rfl rfl aX hp19 rfl rU)) eI) rfl (lY rfl (qM rfl) fD),vP fz⟩)
  ·refine aq 1 ?_
   refine cq 6 [3] [I (ai (x2+1))] 275 ?_
   refine cZ ?_
   exact rg [0,3] [276,2] (ih _ _ h hr hn :)
 ·refine aq 1 ?_
  exact rg [0] [68,2] (hn _ (aj h) :) (hk:=hK)
theorem WZ (s_2:List ac)(r:(List ac))(h:BM s_2=some r):br wQ Tryz.f178 [true] 1 (Er s_2) (Et r):=by
 show Run _ _ (Es s_2 r) [.code Lx] _
 refine rI 61 [(0,.hs 1 0 [] 1 0 (s_2.map str).length)] [(1,some ⟨0,1,s_2.map str⟩)] 2 ?_
 unfold BM at h
 refine cq 8 [6] [.hs 1 0 [] 1 0 (s_2.map str).length] 34 ?_
 refine oq 50 (I (len s_2)) rfl (bu rfl rfl rfl (vQ (f:=str) (xs:=s_2) rfl rfl)) ?_
 refine cq 2 [8] [B (decide ((len s_2)<2))] 66 ?_
 refine sq h ?_ ?_<;>intro h
 ·refine cq 5 [2] [.hs 1 0 [] 1 0 (s_2.map str).length] 98 ?_
  obtain rfl:=sI h
  exact cr rfl ⟨_,fin (vs:=[.hs 1 0 [] 1 0 (s_2.map str).length]) rfl (gC (gk rfl (dZ rfl rfl)) eI) rfl (lY rfl (qM rfl) fD),vP fz⟩
 ·refine aq 1 ?_
  refine cq 6 [3] [I (1)] 82 ?_
  obtain⟨y20,hy20,hy201,hy202⟩:=bJ h
  refine bN rfl ?_
  refine rg [0,3] [83,1] (NU s_2 rfl 1 _ hy20 (fun r' e st hq=>by rw[hy201 r' e] at hq;exact hq) fun u20 hu=>?_)
  replace h:=hy202 u20 hu
  refine cq 5 [2] [.hs 2 0 [] 1 0 (u20.map str).length] 35 ?_
  obtain rfl:=sI h
  exact cr rfl ⟨_,fin (vs:=[.hs 2 0 [] 1 0 (u20.map str).length]) rfl (gC (gk rfl (dZ rfl rfl)) eI) rfl (lY rfl (qM rfl) fD),vP fz⟩
theorem S4 {G:bZ}:bV G 178 BN:=gT 1 1 bz cd Tryz.func178 (fun a r h=>WZ a r h)
def Dp:(List ac)→List V:=oA (rV 1 str)
def Dq (r:(List ac)):V×List V:=(.usl 1 (r.map str),[.dead])
noncomputable def AW :=bi [true] Dp Dq fun x=>AV x
theorem abw {jU:List ac}{r}(h:AV jU=some r):AW.F (Dp jU)=some (Dq r):=aH (aI (jc bT)) h
noncomputable def aby :=aF Tryz.f143
noncomputable def RB :=cb [(177,we),(178,BN)]
def abx (x:(List ac))(r:(List ac)):St→Prop:=QF RB Tryz.f143 [true] (Dp x) (Dq r)
end Go.Ln
