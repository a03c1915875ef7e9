/-
  The walks.
-/
import Derived.Test.YtcfddlacocdpoaaGreatDoorFnExactPowerForRunA
set_option maxHeartbeats 4000000
set_option linter.unusedVariables false
set_option linter.unusedSimpArgs false
set_option maxRecDepth 100000
namespace Go.Ln
open Go Go.Proofs
theorem Xf (c_1:Contract)(r:(List aa))(h:sJ c_1=some r):bp NH Tryz.f101 [false] 0 (Ic c_1) (Ig r):=by
 show Run _ _ (Ws c_1 r) [.code Wt] _
 refine rI 25 [(0,ac c_1)] [] 1 ?_
 unfold sJ at h
 refine ck 7 [1] [] [1] [] [.hp 1 0 [] 2 0 0] [some ⟨0,2,[ac c_1]⟩] 33 (by kernel_rfl) ?_
 refine oq 49 (.hs 33 0 [] 1 0 0) rfl (ft rfl (oo (f:=I) (xs:=[]) (z:=str ([])) (es:=[]) (ws:=[]) rfl rfl rfl (by decide) rfl (eo rfl) rfl)) ?_
 refine cq 7 [3,8] [.hs 33 0 [] 1 0 0,.isl false (c_1.Clauses.map aj)] 97 ?_
 refine oq 113 (I (len c_1.Clauses)) rfl (bq rfl rfl rfl (bB rfl)) ?_
 refine cq 3 [10] [I (0)] 129 ?_
 obtain⟨y6,hy6,hy61,hy62⟩:=bJ h
 refine ci rfl ?_
 refine rf [3,8,9,10] [33] (NI c_1 rfl (0,[]) _ hy6 (fun r' e st hq=>by rw[hy61 r' e] at hq;exact hq) fun u6 hu=>?_)
 replace h:=hy62 u6 hu
 refine cq 3 [23] [.hs 1 0 [] 1 0 (u6.map str).length] 18 ?_
 obtain⟨r7,hr7,h⟩:=bS h
 refine oq 34 (.hs 18 0 [] 1 0 (r7.map str).length) rfl (cd rfl rfl (cO rfl rfl rfl (uI (qP rfl (lN (path:=[]) rfl rfl bb rfl)) dB) (Yr hr7) (.inr rfl) (tU rfl rfl rfl mB d9) rfl rfl rfl)) ?_
 refine cq 2 [2] [.hs 18 0 [] 1 0 (r7.map str).length] 50 ?_
 obtain rfl:=sI h
 exact b8 rfl ⟨_,fin (vs:=[.hs 18 0 [] 1 0 (r7.map str).length]) rfl (fk (eO rfl (cN rfl rfl)) ey) rfl (eP fu),fm⟩
theorem A6 {G:bU}:bQ G 101 sK:=gT 1 0 (aJ U0 (aJ OT bv)) ca Tryz.func101 (fun a r h=>Xf a r h)
def HP:Contract→List V:=oA aO
def HR (r:Bool):V×List V:=(B r,[])
noncomputable def FP :=ba [false] HP HR fun x=>IZ x
theorem aaZ {c_1:Contract}{r}(h:IZ c_1=some r):FP.F (HP c_1)=some (HR r):=aH (aI aZ) h
noncomputable def HS :=aF Tryz.f47
noncomputable def HQ :=b9 [(98,Ge),(100,Gl),(101,sK),(99,gX)]
def Bz (x:Contract)(r:Bool):St→Prop:=QF HQ Tryz.f47 [false] (HP x) (HR r)
theorem M8 (c_1:Contract):cW HQ 0 (Bz c_1) (cL (cL (cR (cL (cR (cR HS)))))) 0 (mO c_1) (fun u=>(sT 30 [(1,.hp 1 0 [] 2 0 0)] [⟨0,2,[ac c_1]⟩] 2)) fun x4=>(sT 30 [(1,.hp 1 0 [] 2 0 0),(17,I (len c_1.Clauses)),(18,I x4)] [⟨0,2,[ac c_1]⟩] 2):=eF (BA c_1) fun {Q K} hK self ih x4 y h hr hn=>by
 unfold lQ at h
 refine cq 5 [19] [B (decide (x4<(len c_1.Clauses)))] 18 ?_
 refine sq h ?_ ?_<;>intro h
 ·refine aq 1 ?_
  refine cq 11 [21,22] [ac c_1,I x4] 82 ?_
  obtain⟨r5,hr5,h⟩:=bS h
  refine oq 98 (B r5) rfl (cP (abf hr5)) ?_
  refine cq 2 [24] [B (!r5)] 114 ?_
  refine sq h ?_ ?_<;>intro h
  ·refine cq 4 [2] [B false] 130 ?_
   exact b8 rfl (hr _ (ai h) _ (qp [B false]))
  ·refine aq 1 ?_
   refine cq 5 [18] [I (az (x4+1))] 146 ?_
   refine dP ?_
   exact rf [1,17,18] [1] (ih _ _ h hr hn :)
 ·refine aq 1 ?_
  exact rf [1] [1] (hn _ (ai h) :) (hk:=hK)
theorem WS (c_1:Contract)(r:Bool)(h:IZ c_1=some r):bp HQ Tryz.f47 [false] 0 (HP c_1) (HR r):=by
 show Run _ _ (Bz c_1 r) [.code HS] _
 refine rI 30 [(0,ac c_1)] [] 1 ?_
 unfold IZ at h
 refine ck 10 [1,5] [] [1] [] [.hp 1 0 [] 2 0 0,.isl false (c_1.Parties.map str)] [some ⟨0,2,[ac c_1]⟩] 65 (by kernel_rfl) ?_
 obtain⟨r2,hr2,h⟩:=bS h
 refine oq 81 (B r2) rfl (cP (aa4 hr2)) ?_
 refine cq 2 [8] [B (!r2)] 113 ?_
 obtain⟨y3,hy3,hy31,hy32⟩:=bJ h
 have j3:∀u3,y3=.inr u3→Run HQ 0 (Bz c_1 r) (.code (cR (cL (cR HS)))::.code (cR (cR HS))::[]) (sT 30 [(1,.hp 1 0 [] 2 0 0),(14,B u3)] [⟨0,2,[ac c_1]⟩] 2):=by
  intro u3 hu
  replace h:=hy32 u3 hu
  refine sq h ?_ ?_<;>intro h
  ·refine cq 4 [2] [B false] 18 ?_
   obtain rfl:=sI h
   exact rP [B false]
  ·refine aq 1 ?_
   refine cq 5 [16] [.isl false (c_1.Clauses.map aj)] 34 ?_
   refine oq 50 (I (len c_1.Clauses)) rfl (bq rfl rfl rfl (bB rfl)) ?_
   refine cq 3 [18] [I (0)] 66 ?_
   obtain⟨y6,hy6,hy61,hy62⟩:=bJ h
   refine ci rfl ?_
   refine rf [1,17,18] [1] (M8 c_1 rfl 0 _ hy6 (fun r' e st hq=>by rw[hy61 r' e] at hq;exact hq) fun u6 hu=>?_)
   replace h:=hy62 u6 hu
   refine cq 3 [26] [ac c_1] 18 ?_
   obtain⟨r7,hr7,h⟩:=bS h
   refine oq 34 (.hs 18 0 [] 1 0 (r7.map str).length) rfl (cP (Ie hr7)) ?_
   refine oq 50 (I (len r7)) rfl (bq rfl rfl rfl (xd (f:=str) (xs:=r7) rfl rfl)) ?_
   refine cq 3 [2] [B (decide ((len r7)≤16))] 82 ?_
   obtain rfl:=sI h
   exact rP [B (decide ((len r7)≤16))]
 have r3:∀r',y3=.inl r'→∀st,Bz c_1 r' st→(Bz c_1 r) st:=fun r' e st hq=>by rw[hy31 r' e] at hq;exact hq
 replace h:=hy3
 refine sp 8 h rfl ?_ ?_<;>intro h
 ·refine cq 7 [14] [B true] 209 ?_
  exact rf [1,14] [1] (j3 _ (ai h) :)
 ·refine cq 2 [10] [.isl false (c_1.Clauses.map aj)] 145 ?_
  refine oy 161 (I (len c_1.Clauses)) rfl (bq rfl rfl rfl (bB rfl)) ?_
  obtain⟨r8,hr8,h⟩:=bS h
  refine oy 177 (B r8) rfl (cP (gW hr8)) ?_
  refine cq 3 [14] [B (!r8)] 209 ?_
  exact rf [1,14] [1] (j3 _ (ai h) :)
theorem Tk {G:bU}:bQ G 47 FP:=gT 1 0 (aJ U1 (aJ U8 (aJ A6 (aJ ij bv)))) ca Tryz.func47 (fun a r h=>WS a r h)
def Iy:(List aa)→List V:=oA (eW str)
def IA (r:Bool):V×List V:=(B r,[])
noncomputable def Gr :=ba [false] Iy IA fun x=>JY x
theorem abt {bW:List aa}{r}(h:JY bW=some r):Gr.F (Iy bW)=some (IA r):=aH (aI (bu bc)) h
noncomputable def Wz :=aF Tryz.f158
noncomputable abbrev sM :=cL (cL (cR (cL (cR Wz))))
noncomputable abbrev R4 :=cR (cR (cL (cL (cR (cR sM)))))
noncomputable def EV :=b9 [(81,nM)]
def Iz (x:(List aa))(r:Bool):St→Prop:=QF EV Tryz.f158 [false] (Iy x) (IA r)
theorem NJ (bW:List aa):cW EV 0 (Iz bW) sM 0 (mV bW) (fun u=>(sT 32 [(0,.isl false (bW.map str))] [] 1)) fun x2=>(sT 32 [(0,.isl false (bW.map str)),(5,.isl false (bW.map str)),(6,I (len bW)),(7,I x2)] [] 1):=eF (EW bW) fun {Q K} hK self ih x2 y h hr hn=>by
 unfold lU at h
 refine cq 5 [8] [B (decide (x2<(len bW)))] 17 ?_
 refine sq h ?_ ?_<;>intro h
 ·refine aq 1 ?_
  refine cq 5 [9] [I x2] 33 ?_
  obtain⟨e3,he3,h⟩:=bS h
  refine oq 49 (.iptr (str e3) 0) rfl (au rfl rfl rfl (aV rfl rfl rfl rfl he3)) ?_
  refine cq 7 [3,4,12] [I x2,str e3,str e3] 113 ?_
  obtain⟨r4,hr4,h⟩:=bS h
  refine oq 129 (B r4) rfl (cP (wM hr4)) ?_
  refine cq 2 [15] [B (!r4)] 161 ?_
  obtain⟨y5,hy5,hy51,hy52⟩:=bL h
  have j5:∀u5,y5=.inr u5→Run EV 0 Q (.code R4::.blk 1::.code (cR (cR (cR sM)))::.lp sM::.blk 0::K) (sT 32 [(0,.isl false (bW.map str)),(5,.isl false (bW.map str)),(6,I (len bW)),(7,I x2),(27,B u5)] [] 1):=by
   intro u5 hu
   replace h:=hy52 u5 hu
   refine sq h ?_ ?_<;>intro h
   ·refine cq 4 [2] [B false] 17 ?_
    exact b8 rfl (hr _ (ai h) _ (qp [B false]))
   ·refine aq 1 ?_
    refine cq 5 [7] [I (az (x2+1))] 33 ?_
    refine dP ?_
    exact rf [0,5,6,7] [] (ih _ _ h hr hn :)
  have r5:∀r',y5=.inl r'→∀st,Iz bW r' st→Q st:=fun r' e st hq=>hr r' (hy51 r' e) st hq
  replace h:=hy5
  refine sp 15 h rfl ?_ ?_<;>intro h
  ·refine cq 13 [27] [B true] 353 ?_
   exact rf [0,5,6,7,27] [] (j5 _ (ai h) :)
  ·refine cq 3 [18] [B (decide (x2>0))] 209 ?_
   obtain⟨y6,hy6,hy61,hy62⟩:=bL h
   have j6:∀u6,y6=.inr u6→Run EV 0 Q (.code R4::.blk 1::.code (cR (cR (cR sM)))::.lp sM::.blk 0::K) (sT 32 [(0,.isl false (bW.map str)),(5,.isl false (bW.map str)),(6,I (len bW)),(7,I x2),(27,B u6)] [] 1):=by
    intro u6 hu
    replace h:=hy62 u6 hu
    exact rf [0,5,6,7,27] [] (j5 _ (ai h) :)
   have r6:∀r',y6=.inl r'→∀st,Iz bW r' st→Q st:=fun r' e st hq=>r5 r' (hy61 r' e) st hq
   replace h:=hy6
   refine sp 18 h rfl ?_ ?_<;>intro h
   ·refine cq 4 [19,20,22] [str e3,.isl false (bW.map str),I (az (x2 - 1))] 273 ?_
    obtain⟨e7,he7,h⟩:=bS h
    refine oy 289 (.iptr (str e7) 0) rfl (au rfl rfl rfl (aV rfl rfl rfl rfl he7)) ?_
    refine cq 5 [27] [B (Op.bytesLess e3 e7||e3==e7)] 353 ?_
    exact rf [0,5,6,7,27] [] (j6 _ (ai h) :)
   ·refine cq 10 [27] [B false] 353 ?_
    exact rf [0,5,6,7,27] [] (j6 _ (ai h) :)
 ·refine aq 1 ?_
  exact rf [0] [] (hn _ (ai h) :) (hk:=hK)
theorem Xn (bW:List aa)(r:Bool)(h:JY bW=some r):bp EV Tryz.f158 [false] 0 (Iy bW) (IA r):=by
 show Run _ _ (Iz bW r) [.code Wz] _
 refine rI 32 [(0,.isl false (bW.map str))] [] 1 ?_
 unfold JY at h
 refine cq 8 [5] [.isl false (bW.map str)] 33 ?_
 refine oq 49 (I (len bW)) rfl (bq rfl rfl rfl (bB rfl)) ?_
 refine cq 3 [7] [I (0)] 65 ?_
 obtain⟨y8,hy8,hy81,hy82⟩:=bJ h
 refine ci rfl ?_
 refine rf [0,5,6,7] [] (NJ bW rfl 0 _ hy8 (fun r' e st hq=>by rw[hy81 r' e] at hq;exact hq) fun u8 hu=>?_)
 replace h:=hy82 u8 hu
 refine cq 3 [29] [.isl false (bW.map str)] 17 ?_
 refine oq 33 (I (len bW)) rfl (bq rfl rfl rfl (bB rfl)) ?_
 refine cq 3 [2] [B (decide ((len bW)≤16))] 65 ?_
 obtain rfl:=sI h
 exact rP [B (decide ((len bW)≤16))]
theorem Vd {G:bU}:bQ G 158 Gr:=gT 1 0 (aJ pU bv) ca Tryz.func158 (fun a r h=>Xn a r h)
def ID:(aa×(List aa))→List V:=cA str (oA (fun x:List aa=>.iptr ((eW str) x) 0))
def IE (r:Bool):V×List V:=(B r,[])
noncomputable def Gt :=ba [false,false] ID IE fun x=>J0 x.1 x.2
theorem abv {f_1:aa}{a_2:List aa}{r}(h:J0 f_1 a_2=some r):Gt.F (ID (f_1,a_2))=some (IE r):=aH (aN bc (aI (fz (bu bc)))) h
noncomputable def abx :=aF Tryz.f160
noncomputable def WA :=b9 [(129,nP)]
def abw (x:aa×(List aa))(r:Bool):St→Prop:=QF WA Tryz.f160 [false,false] (ID x) (IE r)
theorem Xp (f_1:aa)(a_2:List aa)(r:Bool)(h:J0 f_1 a_2=some r):bp WA Tryz.f160 [false,false] 0 (ID (f_1,a_2)) (IE r):=by
 show Run _ _ (abw (f_1,a_2) r) [.code abx] _
 refine rI 8 [(0,str f_1),(1,.iptr (.isl false (a_2.map str)) 0)] [] 1 ?_
 unfold J0 at h
 refine cq 8 [4,5] [.isl false (a_2.map str),str f_1] 49 ?_
 obtain⟨r3,hr3,h⟩:=bS h
 refine oq 65 (B r3) rfl (cP (Da hr3)) ?_
 refine cq 3 [3] [B (!r3)] 97 ?_
 obtain rfl:=sI h
 exact rP [B (!r3)]
theorem Vf {G:bU}:bQ G 160 Gt:=gT 2 0 (aJ qF bv) ca Tryz.func160 (fun a r h=>Xp a.1 a.2 r h)
def Dm:((List aa)×(List aa))→List V:=cA (eW str) (oA (fun x:(List aa)=>(.fn 160 [.iptr ((eW str) x) 0]:V)))
def Dn (r:Int):V×List V:=(I r,[])
noncomputable def Af :=ba [false,false] Dm Dn fun x=>F4 x.1 x.2
theorem ZP {s_1:List aa}{f_2:(List aa)}{r}(h:F4 s_1 f_2=some r):Af.F (Dm (s_1,f_2))=some (Dn r):=aH (aN (bu bc) (aI (sY (bu bc)))) h
noncomputable def QS :=aF Tryz.f182
noncomputable def Js :=b9 [(160,Gt)]
def QR (x:(List aa)×(List aa))(r:Int):St→Prop:=QF Js Tryz.f182 [false,false] (Dm x) (Dn r)
theorem LG (s_1:List aa)(f_2:(List aa)):cW Js 0 (QR (s_1,f_2)) (cL (cL (cR (cL (cR QS))))) 0 (se s_1 f_2) (fun u=>(sT 19 [] [] 1)) fun x3=>(sT 19 [(0,.isl false (s_1.map str)),(1,.fn 160 [.iptr (.isl false (f_2.map str)) 0]),(7,I (len s_1)),(8,I x3)] [] 1):=eF (xM s_1 f_2) fun {Q K} hK self ih x3 y h hr hn=>by
 unfold ml at h
 refine cq 5 [9] [B (decide (x3<(len s_1)))] 17 ?_
 refine sq h ?_ ?_<;>intro h
 ·refine aq 1 ?_
  refine cq 12 [5,11,12,13] [I x3,.fn 160 [.iptr (.isl false (f_2.map str)) 0],.isl false (s_1.map str),I x3] 97 ?_
  obtain⟨e4,he4,h⟩:=bS h
  refine oq 113 (.iptr (str e4) 0) rfl (au rfl rfl rfl (aV rfl rfl rfl rfl he4)) ?_
  refine cq 1 [15] [str e4] 129 ?_
  obtain⟨r5,hr5,h⟩:=bS h
  refine oq 145 (B r5) rfl (cP (abv hr5)) ?_
  refine aq 1 ?_
  refine sq h ?_ ?_<;>intro h
  ·refine cq 5 [4] [I x3] 177 ?_
   exact b8 rfl (hr _ (ai h) _ (qp [I x3]))
  ·refine aq 1 ?_
   refine cq 5 [8] [I (az (x3+1))] 177 ?_
   refine dP ?_
   exact rf [0,1,7,8] [] (ih _ _ h hr hn :)
 ·refine aq 1 ?_
  exact rf [] [] (hn _ (ai h) :) (hk:=hK)
theorem Ul (s_1:List aa)(f_2:(List aa))(r:Int)(h:F4 s_1 f_2=some r):bp Js Tryz.f182 [false,false] 0 (Dm (s_1,f_2)) (Dn r):=by
 show Run _ _ (QR (s_1,f_2) r) [.code QS] _
 refine rI 19 [(0,.isl false (s_1.map str)),(1,.fn 160 [.iptr (.isl false (f_2.map str)) 0])] [] 1 ?_
 unfold F4 at h
 refine cq 8 [6] [.isl false (s_1.map str)] 33 ?_
 refine oq 49 (I (len s_1)) rfl (bq rfl rfl rfl (bB rfl)) ?_
 refine cq 3 [8] [I (0)] 65 ?_
 obtain⟨y6,hy6,hy61,hy62⟩:=bJ h
 refine ci rfl ?_
 refine rf [0,1,7,8] [] (LG s_1 f_2 rfl 0 _ hy6 (fun r' e st hq=>by rw[hy61 r' e] at hq;exact hq) fun u6 hu=>?_)
 replace h:=hy62 u6 hu
 refine cq 4 [4] [I (-1)] 17 ?_
 obtain rfl:=sI h
 exact rP [I (-1)]
theorem QT {G:bU}:bQ G 182 Af:=gT 2 0 (aJ Vf bv) ca Tryz.func182 (fun a r h=>Ul a.1 a.2 r h)
def C7:((List aa)×(List aa))→List V:=cA (eW str) (oA (fun x:(List aa)=>(.fn 160 [.iptr ((eW str) x) 0]:V)))
def C8 (r:Bool):V×List V:=(B r,[])
noncomputable def zY :=ba [false,false] C7 C8 fun x=>FX x.1 x.2
theorem ZF {s_1:List aa}{f_2:(List aa)}{r}(h:FX s_1 f_2=some r):zY.F (C7 (s_1,f_2))=some (C8 r):=aH (aN (bu bc) (aI (sY (bu bc)))) h
noncomputable def ZH :=aF Tryz.f159
noncomputable def Qy :=b9 [(182,Af)]
def ZG (x:(List aa)×(List aa))(r:Bool):St→Prop:=QF Qy Tryz.f159 [false,false] (C7 x) (C8 r)
theorem Ud (s_1:List aa)(f_2:(List aa))(r:Bool)(h:FX s_1 f_2=some r):bp Qy Tryz.f159 [false,false] 0 (C7 (s_1,f_2)) (C8 r):=by
 show Run _ _ (ZG (s_1,f_2) r) [.code ZH] _
 refine rI 9 [(0,.isl false (s_1.map str)),(1,.fn 160 [.iptr (.isl false (f_2.map str)) 0])] [] 1 ?_
 unfold FX at h
 refine cq 8 [5,6] [.isl false (s_1.map str),.fn 160 [.iptr (.isl false (f_2.map str)) 0]] 49 ?_
 obtain⟨r3,hr3,h⟩:=bS h
 refine oq 65 (I r3) rfl (cd rfl rfl (cO rfl rfl rfl (bw (bR rfl) (bw (Hz (d6 (jd rfl) lr)) dB)) (ZP hr3) (.inr rfl) d9 rfl rfl rfl)) ?_
 refine cq 3 [4] [B (decide (r3≥0))] 97 ?_
 obtain rfl:=sI h
 exact rP [B (decide (r3≥0))]
theorem Qz {G:bU}:bQ G 159 zY:=gT 2 0 (aJ QT bv) ca Tryz.func159 (fun a r h=>Ud a.1 a.2 r h)
def BL:(List Int)→List V:=oA (eW I)
def BM (r:Int):V×List V:=(I r,[])
noncomputable def yT :=ba [false] BL BM fun x=>uV x
theorem Yu {ar:List Int}{r}(h:uV ar=some r):yT.F (BL ar)=some (BM r):=aH (aI (bu bC)) h
noncomputable def OV :=aF Tryz.f161
noncomputable def I0 :=b9 []
def OU (x:(List Int))(r:Int):St→Prop:=QF I0 Tryz.f161 [false] (BL x) (BM r)
theorem Li (ar:List Int):cW I0 0 (OU ar) (cL (cL (cR (cL (cR (cR OV)))))) 0 (FR ar) (fun u=>(sT 17 [(3,I u)] [] 1)) fun x2=>(sT 17 [(3,I x2.1),(6,.isl false (ar.map I)),(7,I (len ar)),(8,I x2.2)] [] 1):=eF (Lh ar) fun {Q K} hK self ih x2 y h hr hn=>by
 unfold qA at h
 refine cq 5 [9] [B (decide (x2.2<(len ar)))] 17 ?_
 refine sq h ?_ ?_<;>intro h
 ·refine aq 1 ?_
  refine aq 4 ?_
  obtain⟨e3,he3,h⟩:=bS h
  refine oq 33 (.iptr (I e3) 0) rfl (au rfl rfl rfl (aV rfl rfl rfl rfl he3)) ?_
  refine cq 14 [3,8] [I (az (x2.1+e3)),I (az (x2.2+1))] 161 ?_
  refine dP ?_
  exact rf [3,6,7,8] [] (ih _ _ h hr hn :)
 ·refine aq 1 ?_
  exact rf [3] [] (hn _ (ai h) :) (hk:=hK)
theorem Tr (ar:List Int)(r:Int)(h:uV ar=some r):bp I0 Tryz.f161 [false] 0 (BL ar) (BM r):=by
 show Run _ _ (OU ar r) [.code OV] _
 refine rI 17 [(0,.isl false (ar.map I))] [] 1 ?_
 unfold uV at h
 refine cq 12 [3,6] [I (0),.isl false (ar.map I)] 49 ?_
 refine oq 65 (I (len ar)) rfl (bq rfl rfl rfl (bB rfl)) ?_
 refine cq 3 [8] [I (0)] 81 ?_
 obtain⟨y4,hy4,hy41,hy42⟩:=bJ h
 refine ci rfl ?_
 refine rf [3,6,7,8] [] (Li ar rfl (0,0) _ hy4 (fun r' e st hq=>by rw[hy41 r' e] at hq;exact hq) fun u4 hu=>?_)
 replace h:=hy42 u4 hu
 refine cq 5 [2] [I u4] 33 ?_
 obtain rfl:=sI h
 exact rP [I u4]
theorem OW {G:bU}:bQ G 161 yT:=gT 1 0 bv ca Tryz.func161 (fun a r h=>Tr a r h)
def Iq:(Clause×Contract×Int)→List V:=cA aj (cA (fun x:Contract=>.iptr (aO x) 0) (oA (fun x:Int=>.iptr (I x) 0)))
def Ir (r:Bool):V×List V:=(B r,[])
noncomputable def Gn :=ba [false,false,false] Iq Ir fun x=>JW x.1 x.2.1 x.2.2
theorem abl {x_1:Clause}{a_2:Contract}{a_3:Int}{r}(h:JW x_1 a_2 a_3=some r):Gn.F (Iq (x_1,a_2,a_3))=some (Ir r):=aH (aN cB (aN (fz aZ) (aI (fz bC)))) h
noncomputable def abn :=aF Tryz.f195
noncomputable def Wx :=b9 []
def abm (x:Clause×Contract×Int)(r:Bool):St→Prop:=QF Wx Tryz.f195 [false,false,false] (Iq x) (Ir r)
theorem Xk (x_1:Clause)(a_2:Contract)(a_3:Int)(r:Bool)(h:JW x_1 a_2 a_3=some r):bp Wx Tryz.f195 [false,false,false] 0 (Iq (x_1,a_2,a_3)) (Ir r):=by
 show Run _ _ (abm (x_1,a_2,a_3) r) [.code abn] _
 refine rI 14 [(0,ao x_1),(1,.iptr (ac a_2) 0),(2,.iptr (I a_3) 0)] [] 1 ?_
 unfold JW at h
 refine ck 6 [3] [] [1] [] [.hp 1 0 [] 12 0 0] [some ⟨0,12,[ao x_1]⟩] 33 (by kernel_rfl) ?_
 refine ez [0,1,0,4,0,28,60,124,255,511] rfl (by decide +kernel) ?_
 refine dq [1] [] (.hp 1 0 [] 12 0 11) rfl (al rfl rfl rfl) ?_
 refine dq [1] [] (str x_1.Repair) rfl (aY rfl rfl) ?_
 refine dq [] [] (.iptr (ac a_2) 1) rfl (al rfl rfl rfl) ?_
 refine dq [] [] (.isl false (a_2.Clauses.map aj)) rfl (aY rfl rfl) ?_
 refine dq [] [] (I a_3) rfl (aY rfl rfl) ?_
 obtain⟨e4,he4,h⟩:=bS h
 refine dq [] [] (.iptr (ao e4) 0) rfl (au rfl rfl rfl (aV rfl rfl rfl rfl he4)) ?_
 refine dq [] [] (.iptr (ao e4) 0) rfl (al rfl rfl rfl) ?_
 refine dq [] [] (str e4.Id) rfl (aY rfl rfl) ?_
 refine dk 2 [4,13] [B (x_1.Repair==e4.Id),B (x_1.Repair==e4.Id)] ?_
 refine de 193 rfl rfl ?_
 obtain rfl:=sI h
 exact rP [B (x_1.Repair==e4.Id)]
theorem Va {G:bU}:bQ G 195 Gn:=gT 3 0 bv ca Tryz.func195 (fun a r h=>Xk a.1 a.2.1 a.2.2 r h)
def De:((List Clause)×(Contract×Int))→List V:=cA (eW aj) (oA (fun x:Contract×Int=>(.fn 195 [.iptr (aO x.1) 0,.iptr (I x.2) 0]:V)))
def Df (r:Int):V×List V:=(I r,[])
noncomputable def Aa :=ba [false,false] De Df fun x=>FZ x.1 x.2
theorem ZL {s_1:List Clause}{f_2:Contract×Int}{r}(h:FZ s_1 f_2=some r):Aa.F (De (s_1,f_2))=some (Df r):=aH (aN (bu cB) (aI (ME aZ bC))) h
noncomputable def QG :=aF Tryz.f110
noncomputable def Jo :=b9 [(195,Gn)]
def QE (x:(List Clause)×(Contract×Int))(r:Int):St→Prop:=QF Jo Tryz.f110 [false,false] (De x) (Df r)
theorem LC (s_1:List Clause)(f_2:Contract×Int):cW Jo 0 (QE (s_1,f_2)) (cL (cL (cR (cL (cR QG))))) 0 (rZ s_1 f_2) (fun u=>(sT 19 [] [] 1)) fun x3=>(sT 19 [(0,.isl false (s_1.map aj)),(1,.fn 195 [.iptr (ac f_2.1) 0,.iptr (I f_2.2) 0]),(7,I (len s_1)),(8,I x3)] [] 1):=eF (xI s_1 f_2) fun {Q K} hK self ih x3 y h hr hn=>by
 unfold mg at h
 refine cq 5 [9] [B (decide (x3<(len s_1)))] 17 ?_
 refine sq h ?_ ?_<;>intro h
 ·refine aq 1 ?_
  refine cq 12 [5,11,12,13] [I x3,.fn 195 [.iptr (ac f_2.1) 0,.iptr (I f_2.2) 0],.isl false (s_1.map aj),I x3] 97 ?_
  obtain⟨e4,he4,h⟩:=bS h
  refine oq 113 (.iptr (ao e4) 0) rfl (au rfl rfl rfl (aV rfl rfl rfl rfl he4)) ?_
  refine cq 1 [15] [ao e4] 129 ?_
  obtain⟨r5,hr5,h⟩:=bS h
  refine oq 145 (B r5) rfl (cP (abl hr5)) ?_
  refine aq 1 ?_
  refine sq h ?_ ?_<;>intro h
  ·refine cq 5 [4] [I x3] 177 ?_
   exact b8 rfl (hr _ (ai h) _ (qp [I x3]))
  ·refine aq 1 ?_
   refine cq 5 [8] [I (az (x3+1))] 177 ?_
   refine dP ?_
   exact rf [0,1,7,8] [] (ih _ _ h hr hn :)
 ·refine aq 1 ?_
  exact rf [] [] (hn _ (ai h) :) (hk:=hK)
theorem Ug (s_1:List Clause)(f_2:Contract×Int)(r:Int)(h:FZ s_1 f_2=some r):bp Jo Tryz.f110 [false,false] 0 (De (s_1,f_2)) (Df r):=by
 show Run _ _ (QE (s_1,f_2) r) [.code QG] _
 refine rI 19 [(0,.isl false (s_1.map aj)),(1,.fn 195 [.iptr (ac f_2.1) 0,.iptr (I f_2.2) 0])] [] 1 ?_
 unfold FZ at h
 refine cq 8 [6] [.isl false (s_1.map aj)] 33 ?_
 refine oq 49 (I (len s_1)) rfl (bq rfl rfl rfl (bB rfl)) ?_
 refine cq 3 [8] [I (0)] 65 ?_
 obtain⟨y6,hy6,hy61,hy62⟩:=bJ h
 refine ci rfl ?_
 refine rf [0,1,7,8] [] (LC s_1 f_2 rfl 0 _ hy6 (fun r' e st hq=>by rw[hy61 r' e] at hq;exact hq) fun u6 hu=>?_)
 replace h:=hy62 u6 hu
 refine cq 4 [4] [I (-1)] 17 ?_
 obtain rfl:=sI h
 exact rP [I (-1)]
theorem QH {G:bU}:bQ G 110 Aa:=gT 2 0 (aJ Va bv) ca Tryz.func110 (fun a r h=>Ug a.1 a.2 r h)
def C1:((List Clause)×(Contract×Int))→List V:=cA (eW aj) (oA (fun x:Contract×Int=>(.fn 195 [.iptr (aO x.1) 0,.iptr (I x.2) 0]:V)))
def C2 (r:Bool):V×List V:=(B r,[])
noncomputable def zV :=ba [false,false] C1 C2 fun x=>FU x.1 x.2
theorem Zw {s_1:List Clause}{f_2:Contract×Int}{r}(h:FU s_1 f_2=some r):zV.F (C1 (s_1,f_2))=some (C2 r):=aH (aN (bu cB) (aI (ME aZ bC))) h
noncomputable def Zy :=aF Tryz.f194
noncomputable def Qs :=b9 [(110,Aa)]
def Zx (x:(List Clause)×(Contract×Int))(r:Bool):St→Prop:=QF Qs Tryz.f194 [false,false] (C1 x) (C2 r)
theorem Ua (s_1:List Clause)(f_2:Contract×Int)(r:Bool)(h:FU s_1 f_2=some r):bp Qs Tryz.f194 [false,false] 0 (C1 (s_1,f_2)) (C2 r):=by
 show Run _ _ (Zx (s_1,f_2) r) [.code Zy] _
 refine rI 9 [(0,.isl false (s_1.map aj)),(1,.fn 195 [.iptr (ac f_2.1) 0,.iptr (I f_2.2) 0])] [] 1 ?_
 unfold FU at h
 refine cq 8 [5,6] [.isl false (s_1.map aj),.fn 195 [.iptr (ac f_2.1) 0,.iptr (I f_2.2) 0]] 49 ?_
 obtain⟨r3,hr3,h⟩:=bS h
 refine oq 65 (I r3) rfl (cd rfl rfl (cO rfl rfl rfl (bw (bR rfl) (bw (Hz (d6 (jd rfl) (d6 (jd rfl) lr))) dB)) (ZL hr3) (.inr rfl) d9 rfl rfl rfl)) ?_
 refine cq 3 [4] [B (decide (r3≥0))] 97 ?_
 obtain rfl:=sI h
 exact rP [B (decide (r3≥0))]
theorem Qt {G:bU}:bQ G 194 zV:=gT 2 0 (aJ QH bv) ca Tryz.func194 (fun a r h=>Ua a.1 a.2 r h)
def Io:(Contract×Int)→List V:=cA aO (oA I)
def Ip (r:Bool):V×List V:=(B r,[])
noncomputable def Gm :=ba [false,false] Io Ip fun x=>JV x.1 x.2
theorem abi {c_1:Contract}{i_2:Int}{r}(h:JV c_1 i_2=some r):Gm.F (Io (c_1,i_2))=some (Ip r):=aH (aN aZ (aI bC)) h
noncomputable def abk :=aF Tryz.f183
noncomputable def Ww :=b9 [(194,zV)]
def abj (x:Contract×Int)(r:Bool):St→Prop:=QF Ww Tryz.f183 [false,false] (Io x) (Ip r)
theorem Xj (c_1:Contract)(i_2:Int)(r:Bool)(h:JV c_1 i_2=some r):bp Ww Tryz.f183 [false,false] 0 (Io (c_1,i_2)) (Ip r):=by
 show Run _ _ (abj (c_1,i_2) r) [.code abk] _
 refine rI 9 [(0,ac c_1),(1,I i_2)] [] 1 ?_
 unfold JV at h
 refine ck 11 [6,7] [] [1,17] [] [.isl false (c_1.Clauses.map aj),.fn 195 [.hp 1 0 [] 2 0 0,.hp 17 0 [] 1 0 0]] [some ⟨0,2,[ac c_1]⟩,some ⟨0,1,[I i_2]⟩] 97 (by kernel_rfl) ?_
 obtain⟨r3,hr3,h⟩:=bS h
 refine oq 113 (B r3) rfl (cd rfl rfl (cO rfl rfl rfl (bw (bR rfl) (bw (Hz (d6 (kR (path:=[]) rfl rfl bb rfl rfl) (d6 (kR (path:=[]) rfl rfl bb rfl rfl) lr))) dB)) (Zw hr3) (.inl rfl) d9 rfl rfl rfl)) ?_
 refine cq 2 [4] [B r3] 129 ?_
 obtain rfl:=sI h
 exact rP [B r3]
theorem U9 {G:bU}:bQ G 183 Gm:=gT 2 0 (aJ Qt bv) ca Tryz.func183 (fun a r h=>Xj a.1 a.2 r h)
def Iw:(Duty×Duty)→List V:=cA ae (oA (fun x:Duty=>.iptr (ae x) 0))
def Ix (r:Bool):V×List V:=(B r,[])
noncomputable def Gq :=ba [false,false] Iw Ix fun x=>Mw x.1 x.2
theorem abp {ja:Duty}{a_2:Duty}{r}(h:Mw ja a_2=some r):Gq.F (Iw (ja,a_2))=some (Ix r):=aH (aN dH (aI (fz dH))) h
noncomputable def abr :=aF Tryz.f185
noncomputable def Wy :=b9 []
def abq (x:Duty×Duty)(r:Bool):St→Prop:=QF Wy Tryz.f185 [false,false] (Iw x) (Ix r)
theorem Xm (ja:Duty)(a_2:Duty)(r:Bool)(h:Mw ja a_2=some r):bp Wy Tryz.f185 [false,false] 0 (Iw (ja,a_2)) (Ix r):=by
 show Run _ _ (abq (ja,a_2) r) [.code abr] _
 refine rI 9 [(0,ae ja),(1,.iptr (ae a_2) 0)] [] 1 ?_
 unfold Mw at h
 refine cq 14 [3] [B (ja.Clause==a_2.Clause)] 129 ?_
 obtain rfl:=sI h
 exact rP [B (ja.Clause==a_2.Clause)]
theorem Vc {G:bU}:bQ G 185 Gq:=gT 2 0 bv ca Tryz.func185 (fun a r h=>Xm a.1 a.2 r h)
def Di:((List Duty)×Duty)→List V:=cA (eW ae) (oA (fun x:Duty=>(.fn 185 [.iptr (ae x) 0]:V)))
def Dj (r:Int):V×List V:=(I r,[])
noncomputable def Ac :=ba [false,false] Di Dj fun x=>F2 x.1 x.2
theorem ZN {s_1:List Duty}{f_2:Duty}{r}(h:F2 s_1 f_2=some r):Ac.F (Di (s_1,f_2))=some (Dj r):=aH (aN (bu dH) (aI (sY dH))) h
noncomputable def QM :=aF Tryz.f196
noncomputable def Jq :=b9 [(185,Gq)]
def QL (x:(List Duty)×Duty)(r:Int):St→Prop:=QF Jq Tryz.f196 [false,false] (Di x) (Dj r)
theorem LE (s_1:List Duty)(f_2:Duty):cW Jq 0 (QL (s_1,f_2)) (cL (cL (cR (cL (cR QM))))) 0 (sb s_1 f_2) (fun u=>(sT 19 [] [] 1)) fun x3=>(sT 19 [(0,.isl false (s_1.map ae)),(1,.fn 185 [.iptr (ae f_2) 0]),(7,I (len s_1)),(8,I x3)] [] 1):=eF (xK s_1 f_2) fun {Q K} hK self ih x3 y h hr hn=>by
 unfold mi at h
 refine cq 5 [9] [B (decide (x3<(len s_1)))] 17 ?_
 refine sq h ?_ ?_<;>intro h
 ·refine aq 1 ?_
  refine cq 12 [5,11,12,13] [I x3,.fn 185 [.iptr (ae f_2) 0],.isl false (s_1.map ae),I x3] 97 ?_
  obtain⟨e4,he4,h⟩:=bS h
  refine oq 113 (.iptr (ae e4) 0) rfl (au rfl rfl rfl (aV rfl rfl rfl rfl he4)) ?_
  refine cq 1 [15] [ae e4] 129 ?_
  obtain⟨r5,hr5,h⟩:=bS h
  refine oq 145 (B r5) rfl (cP (abp hr5)) ?_
  refine aq 1 ?_
  refine sq h ?_ ?_<;>intro h
  ·refine cq 5 [4] [I x3] 177 ?_
   exact b8 rfl (hr _ (ai h) _ (qp [I x3]))
  ·refine aq 1 ?_
   refine cq 5 [8] [I (az (x3+1))] 177 ?_
   refine dP ?_
   exact rf [0,1,7,8] [] (ih _ _ h hr hn :)
 ·refine aq 1 ?_
  exact rf [] [] (hn _ (ai h) :) (hk:=hK)
theorem Uj (s_1:List Duty)(f_2:Duty)(r:Int)(h:F2 s_1 f_2=some r):bp Jq Tryz.f196 [false,false] 0 (Di (s_1,f_2)) (Dj r):=by
 show Run _ _ (QL (s_1,f_2) r) [.code QM] _
 refine rI 19 [(0,.isl false (s_1.map ae)),(1,.fn 185 [.iptr (ae f_2) 0])] [] 1 ?_
 unfold F2 at h
 refine cq 8 [6] [.isl false (s_1.map ae)] 33 ?_
 refine oq 49 (I (len s_1)) rfl (bq rfl rfl rfl (bB rfl)) ?_
 refine cq 3 [8] [I (0)] 65 ?_
 obtain⟨y6,hy6,hy61,hy62⟩:=bJ h
 refine ci rfl ?_
 refine rf [0,1,7,8] [] (LE s_1 f_2 rfl 0 _ hy6 (fun r' e st hq=>by rw[hy61 r' e] at hq;exact hq) fun u6 hu=>?_)
 replace h:=hy62 u6 hu
 refine cq 4 [4] [I (-1)] 17 ?_
 obtain rfl:=sI h
 exact rP [I (-1)]
theorem QN {G:bU}:bQ G 196 Ac:=gT 2 0 (aJ Vc bv) ca Tryz.func196 (fun a r h=>Uj a.1 a.2 r h)
def C3:((List Duty)×Duty)→List V:=cA (eW ae) (oA (fun x:Duty=>(.fn 185 [.iptr (ae x) 0]:V)))
def C4 (r:Bool):V×List V:=(B r,[])
noncomputable def zW :=ba [false,false] C3 C4 fun x=>FV x.1 x.2
theorem Zz {s_1:List Duty}{f_2:Duty}{r}(h:FV s_1 f_2=some r):zW.F (C3 (s_1,f_2))=some (C4 r):=aH (aN (bu dH) (aI (sY dH))) h
noncomputable def ZB :=aF Tryz.f184
noncomputable def Qu :=b9 [(196,Ac)]
def ZA (x:(List Duty)×Duty)(r:Bool):St→Prop:=QF Qu Tryz.f184 [false,false] (C3 x) (C4 r)
theorem Ub (s_1:List Duty)(f_2:Duty)(r:Bool)(h:FV s_1 f_2=some r):bp Qu Tryz.f184 [false,false] 0 (C3 (s_1,f_2)) (C4 r):=by
 show Run _ _ (ZA (s_1,f_2) r) [.code ZB] _
 refine rI 9 [(0,.isl false (s_1.map ae)),(1,.fn 185 [.iptr (ae f_2) 0])] [] 1 ?_
 unfold FV at h
 refine cq 8 [5,6] [.isl false (s_1.map ae),.fn 185 [.iptr (ae f_2) 0]] 49 ?_
 obtain⟨r3,hr3,h⟩:=bS h
 refine oq 65 (I r3) rfl (cd rfl rfl (cO rfl rfl rfl (bw (bR rfl) (bw (Hz (d6 (jd rfl) lr)) dB)) (ZN hr3) (.inr rfl) d9 rfl rfl rfl)) ?_
 refine cq 3 [4] [B (decide (r3≥0))] 97 ?_
 obtain rfl:=sI h
 exact rP [B (decide (r3≥0))]
theorem Qv {G:bU}:bQ G 184 zW:=gT 2 0 (aJ QN bv) ca Tryz.func184 (fun a r h=>Ub a.1 a.2 r h)
def Iu:(Contract×State×Int)→List V:=cA aO (cA b7 (oA I))
def Iv (r:Bool):V×List V:=(B r,[])
noncomputable def Gp :=ba [false,false,false] Iu Iv fun x=>JX x.1 x.2.1 x.2.2
theorem abo {c_1:Contract}{s_2:State}{i_3:Int}{r}(h:JX c_1 s_2 i_3=some r):Gp.F (Iu (c_1,s_2,i_3))=some (Iv r):=aH (aN aZ (aN cY (aI bC))) h
noncomputable def jr :=aF Tryz.f162
noncomputable def pm :=b9 [(99,gX),(183,Gm),(184,zW),(78,sL)]
def gH (x:Contract×State×Int)(r:Bool):St→Prop:=QF pm Tryz.f162 [false,false,false] (Iu x) (Iv r)
theorem Xl (c_1:Contract)(s_2:State)(i_3:Int)(r:Bool)(h:JX c_1 s_2 i_3=some r):bp pm Tryz.f162 [false,false,false] 0 (Iu (c_1,s_2,i_3)) (Iv r):=by
 show Run _ _ (gH (c_1,s_2,i_3) r) [.code jr] _
 refine rI 114 [(0,ac c_1),(1,ak s_2),(2,I i_3)] [] 1 ?_
 unfold JX at h
 refine ck 11 [3,4,9,10] [] [1,17] [] [.hp 1 0 [] 2 0 0,.hp 17 0 [] 5 0 0,.isl false (s_2.Duties.map ae),I i_3] [some ⟨0,2,[ac c_1]⟩,some ⟨0,5,[ak s_2]⟩] 97 (by kernel_rfl) ?_
 obtain⟨e4,he4,h⟩:=bS h
 refine oq 113 (.iptr (ae e4) 0) rfl (au rfl rfl rfl (aV rfl rfl rfl rfl he4)) ?_
 refine ck 11 [7,14,16] [] [129] [] [.hp 129 0 [] 4 0 0,I e4.Clause,.isl false (c_1.Clauses.map aj)] [some ⟨0,4,[ae e4]⟩] 225 (by kernel_rfl) ?_
 refine oq 241 (I (len c_1.Clauses)) rfl (bq rfl rfl rfl (bB rfl)) ?_
 refine cq 1 [18] [I (az ((len c_1.Clauses) - 1))] 257 ?_
 obtain⟨r5,hr5,h⟩:=bS h
 refine oq 273 (B r5) rfl (cP (gW hr5)) ?_
 refine cq 2 [21] [B (!r5)] 305 ?_
 obtain⟨y6,hy6,hy61,hy62⟩:=bJ h
 have j6:∀u6,y6=.inr u6→Run pm 0 (gH (c_1,s_2,i_3) r) (.code (cR (cL (cR (cR jr))))::.code (cR (cR (cR jr)))::[]) (sT 114 [(2,I i_3),(3,.hp 1 0 [] 2 0 0),(4,.hp 2 0 [] 5 0 0),(7,.hp 3 0 [] 4 0 0),(38,B u6)] [⟨0,2,[ac c_1]⟩,⟨0,5,[ak s_2]⟩,⟨0,4,[ae e4]⟩] 4):=by
  intro u6 hu
  replace h:=hy62 u6 hu
  refine sq h ?_ ?_<;>intro h
  ·refine cq 4 [6] [B false] 20 ?_
   obtain rfl:=sI h
   exact rP [B false]
  ·refine aq 1 ?_
   refine aq 2 ?_
   refine ez [0,1,0,4,0,16,0,64,240,496,1008,2044,4095,8191,16383,32767,65535,131071,262143,524287,1048575,2097151,4194303,8388607,16777215,8388607,41943039,8388607,142606335,511705087,1048575999,2122317823,4294967295,8589934591,17179869183] rfl (by decide +kernel) ?_
   refine dq [3] [] (.hp 3 0 [] 4 0 2) rfl (al rfl rfl rfl) ?_
   refine dq [3] [] (I e4.Due) rfl (aY rfl rfl) ?_
   refine dq [3] [] (.hp 3 0 [] 4 0 1) rfl (al rfl rfl rfl) ?_
   refine dq [3] [] (I e4.Since) rfl (aY rfl rfl) ?_
   refine dq [1] [] (.hp 1 0 [] 2 0 1) rfl (al rfl rfl rfl) ?_
   refine dq [1] [] (.isl false (c_1.Clauses.map aj)) rfl (aY rfl rfl) ?_
   refine dq [3] [] (.hp 3 0 [] 4 0 0) rfl (al rfl rfl rfl) ?_
   refine dq [3] [] (I e4.Clause) rfl (aY rfl rfl) ?_
   obtain⟨e7,he7,h⟩:=bS h
   refine dq [] [] (.iptr (ao e7) 0) rfl (au rfl rfl rfl (aV rfl rfl rfl rfl he7)) ?_
   refine dq [] [] (.iptr (ao e7) 10) rfl (al rfl rfl rfl) ?_
   refine dq [] [] (I e7.Within) rfl (aY rfl rfl) ?_
   refine dk 3 [52,51,50] [B (e4.Due != (az (e4.Since+e7.Within))),B (e4.Due != (az (e4.Since+e7.Within))),I (az (e4.Since+e7.Within))] ?_
   obtain⟨y8,hy8,hy81,hy82⟩:=bJ h
   have j8:∀u8,y8=.inr u8→Run pm 0 (gH (c_1,s_2,i_3) r) (.code (cR (cL (cR (cR (cR jr)))))::.code (cR (cR (cR (cR jr))))::[]) (sT 114 [(2,I i_3),(3,.hp 1 0 [] 2 0 0),(4,.hp 2 0 [] 5 0 0),(7,.hp 3 0 [] 4 0 0),(73,B u8)] [⟨0,2,[ac c_1]⟩,⟨0,5,[ak s_2]⟩,⟨0,4,[ae e4]⟩] 4):=by
    intro u8 hu
    replace h:=hy82 u8 hu
    refine sq h ?_ ?_<;>intro h
    ·refine cq 4 [6] [B false] 20 ?_
     obtain rfl:=sI h
     exact rP [B false]
    ·refine aq 1 ?_
     refine cq 6 [74,76] [ac c_1,I e4.Clause] 52 ?_
     obtain⟨r9,hr9,h⟩:=bS h
     refine oq 68 (B r9) rfl (cP (abi hr9)) ?_
     refine cq 2 [79] [B (!r9)] 100 ?_
     obtain⟨y10,hy10,hy101,hy102⟩:=bJ h
     have j10:∀u10,y10=.inr u10→Run pm 0 (gH (c_1,s_2,i_3) r) (.code (cR (cL (cR (cR (cR (cR jr))))))::.code (cR (cR (cR (cR (cR jr)))))::[]) (sT 114 [(4,.hp 1 0 [] 5 0 0),(7,.hp 2 0 [] 4 0 0),(86,B u10)] [⟨0,5,[ak s_2]⟩,⟨0,4,[ae e4]⟩] 3):=by
      intro u10 hu
      replace h:=hy102 u10 hu
      refine sq h ?_ ?_<;>intro h
      ·refine cq 4 [6] [B false] 19 ?_
       obtain rfl:=sI h
       exact rP [B false]
      ·refine aq 1 ?_
       refine cq 12 [88,89] [I e4.Status,B (e4.Status==1)] 67 ?_
       refine sq h ?_ ?_<;>intro h
       ·refine cq 8 [96] [B (decide (e4.Due≥s_2.Day))] 163 ?_
        obtain⟨u11,hu11,h⟩:=lJ h
        have j11:Run pm 0 (gH (c_1,s_2,i_3) r) (.code (cR (cL (cR (cL (cR (cL (cR (cR (cR (cR (cR jr)))))))))))::.blk 0::.code (cR (cR (cR (cR (cR (cR jr))))))::[]) (sT 114 [(6,B u11)] [] 1):=by
         obtain rfl:=sI h
         exact rP [B u11]
        replace h:=hu11
        clear hu11
        refine sp 96 h rfl ?_ ?_<;>intro h
        ·refine cq 6 [6] [B (!s_2.Over)] 243 ?_
         subst h
         exact rf [6] [] (j11 :)
        ·refine cq 6 [6] [B false] 243 ?_
         subst h
         exact rf [6] [] (j11 :)
       ·refine cq 5 [101] [B (e4.Status==2)] 99 ?_
        refine sq h ?_ ?_<;>intro h
        ·refine cq 4 [6] [B true] 115 ?_
         obtain rfl:=sI h
         exact rP [B true]
        ·refine cq 5 [103] [B (e4.Status==3)] 131 ?_
         refine sq h ?_ ?_<;>intro h
         ·refine cq 9 [6] [B (decide (e4.Due<s_2.Day))] 227 ?_
          obtain rfl:=sI h
          exact rP [B (decide (e4.Due<s_2.Day))]
         ·refine cq 5 [110] [B (e4.Status==4)] 163 ?_
          refine sq h ?_ ?_<;>intro h
          ·refine cq 6 [6] [B s_2.Over] 211 ?_
           obtain rfl:=sI h
           exact rP [B s_2.Over]
          ·refine aq 1 ?_
           refine cq 5 [6] [B false] 179 ?_
           obtain rfl:=sI h
           exact rP [B false]
     have r10:∀r',y10=.inl r'→∀st,gH (c_1,s_2,i_3) r' st→(gH (c_1,s_2,i_3) r) st:=fun r' e st hq=>by rw[hy101 r' e] at hq;exact hq
     replace h:=hy10
     refine sp 79 h rfl ?_ ?_<;>intro h
     ·refine cq 3 [81,82] [.isl false (s_2.Duties.map ae),I i_3] 148 ?_
      obtain⟨s12,hs12,h⟩:=bS h
      refine oy 164 (.isl false (s12.map ae)) rfl (ig rfl rfl rfl rfl (K5 rfl rfl (fun y=>(sU y).1) rfl rfl hs12)) ?_
      refine cq 1 [84] [.fn 185 [.hp 3 0 [] 4 0 0]] 180 ?_
      obtain⟨r13,hr13,h⟩:=bS h
      refine oy 196 (B r13) rfl (cd rfl rfl (cO rfl rfl rfl (bw (bR rfl) (bw (Hz (d6 (kR (path:=[]) rfl rfl bb rfl rfl) lr)) dB)) (Zz hr13) (.inl rfl) d9 rfl rfl rfl)) ?_
      refine cq 2 [86] [B r13] 212 ?_
      exact rf [4,7,86] [2,3] (j10 _ (ai h) :)
     ·refine cq 8 [86] [B false] 212 ?_
      exact rf [4,7,86] [2,3] (j10 _ (ai h) :)
   have r8:∀r',y8=.inl r'→∀st,gH (c_1,s_2,i_3) r' st→(gH (c_1,s_2,i_3) r) st:=fun r' e st hq=>by rw[hy81 r' e] at hq;exact hq
   replace h:=hy8
   refine sp 52 h rfl ?_ ?_<;>intro h
   ·refine dk 21 [73,72,71,70,69,68,67,66,65,64,63,62,61,60,59,58,57,56,55,54,53] [B true,.und,.und,.und,.und,.und,.und,.und,.und,.und,.und,.und,.und,.und,.und,B true,B true,.und,.und,.und,.und] ?_
    refine de 564 rfl rfl ?_
    exact rf [2,3,4,7,73] [1,2,3] (j8 _ (ai h) :)
   ·refine dy [3] [] (.hp 3 0 [] 4 0 2) rfl (al rfl rfl rfl) ?_
    refine dy [3] [] (I e4.Due) rfl (aY rfl rfl) ?_
    obtain⟨r14,hr14,h⟩:=bS h
    refine dy [] [] (B r14) rfl (cP (tM hr14)) ?_ (dE rfl rfl rfl rfl (bw (bR rfl) dB) (tM hr14) (.inr rfl) rfl)
    refine dk 3 [58,57,56] [B (!r14),B (!r14),B (!r14)] ?_
    obtain⟨y15,hy15,hy151,hy152⟩:=bL h
    have j15:∀u15,y15=.inr u15→Run pm 0 (gH (c_1,s_2,i_3) r) (.code (cR (cL (cR (cR (cR jr)))))::.code (cR (cR (cR (cR jr))))::[]) (sT 114 [(2,I i_3),(3,.hp 1 0 [] 2 0 0),(4,.hp 2 0 [] 5 0 0),(7,.hp 3 0 [] 4 0 0),(73,B u15)] [⟨0,2,[ac c_1]⟩,⟨0,5,[ak s_2]⟩,⟨0,4,[ae e4]⟩] 4):=by
     intro u15 hu
     replace h:=hy152 u15 hu
     exact rf [2,3,4,7,73] [1,2,3] (j8 _ (ai h) :)
    have r15:∀r',y15=.inl r'→∀st,gH (c_1,s_2,i_3) r' st→(gH (c_1,s_2,i_3) r) st:=fun r' e st hq=>r8 r' (hy151 r' e) st hq
    replace h:=hy15
    refine sp 58 h rfl ?_ ?_<;>intro h
    ·refine dk 15 [73,72,71,70,69,68,67,66,65,64,63,62,61,60,59] [B true,.und,.und,.und,.und,.und,.und,.und,.und,.und,.und,.und,.und,.und,.und] ?_
     refine de 564 rfl rfl ?_
     exact rf [2,3,4,7,73] [1,2,3] (j15 _ (ai h) :)
    ·refine dk 3 [61,60,59] [B (decide (i_3>0)),B (decide (i_3>0)),I i_3] ?_
     obtain⟨y16,hy16,hy161,hy162⟩:=bL h
     have j16:∀u16,y16=.inr u16→Run pm 0 (gH (c_1,s_2,i_3) r) (.code (cR (cL (cR (cR (cR jr)))))::.code (cR (cR (cR (cR jr))))::[]) (sT 114 [(2,I i_3),(3,.hp 1 0 [] 2 0 0),(4,.hp 2 0 [] 5 0 0),(7,.hp 3 0 [] 4 0 0),(73,B u16)] [⟨0,2,[ac c_1]⟩,⟨0,5,[ak s_2]⟩,⟨0,4,[ae e4]⟩] 4):=by
      intro u16 hu
      replace h:=hy162 u16 hu
      exact rf [2,3,4,7,73] [1,2,3] (j15 _ (ai h) :)
     have r16:∀r',y16=.inl r'→∀st,gH (c_1,s_2,i_3) r' st→(gH (c_1,s_2,i_3) r) st:=fun r' e st hq=>r15 r' (hy161 r' e) st hq
     replace h:=hy16
     refine sp 61 h rfl ?_ ?_<;>intro h
     ·refine dy [3] [] (.hp 3 0 [] 4 0 1) rfl (al rfl rfl rfl) ?_
      refine dy [3] [] (I e4.Since) rfl (aY rfl rfl) ?_
      refine dy [2] [] (.hp 2 0 [] 5 0 2) rfl (al rfl rfl rfl) ?_
      refine dy [2] [] (.isl false (s_2.Duties.map ae)) rfl (aY rfl rfl) ?_
      refine dk 2 [67,66] [I (az (i_3 - 1)),I i_3] ?_
      obtain⟨e17,he17,h⟩:=bS h
      refine dy [] [] (.iptr (ae e17) 0) rfl (au rfl rfl rfl (aV rfl rfl rfl rfl he17)) ?_
      refine dy [] [] (.iptr (ae e17) 1) rfl (al rfl rfl rfl) ?_
      refine dy [] [] (I e17.Since) rfl (aY rfl rfl) ?_
      refine dk 3 [73,72,71] [B (decide (e4.Since<e17.Since)),B (decide (e4.Since<e17.Since)),B (decide (e4.Since<e17.Since))] ?_
      refine de 564 rfl rfl ?_
      exact rf [2,3,4,7,73] [1,2,3] (j16 _ (ai h) :)
     ·refine dk 12 [73,72,71,70,69,68,67,66,65,64,63,62] [B false,B false,.und,.und,.und,.und,.und,.und,.und,.und,.und,.und] ?_
      refine de 564 rfl rfl ?_
      exact rf [2,3,4,7,73] [1,2,3] (j16 _ (ai h) :)
 have r6:∀r',y6=.inl r'→∀st,gH (c_1,s_2,i_3) r' st→(gH (c_1,s_2,i_3) r) st:=fun r' e st hq=>by rw[hy61 r' e] at hq;exact hq
 replace h:=hy6
 refine sp 21 h rfl ?_ ?_<;>intro h
 ·refine cq 18 [38] [B true] 577 ?_
  exact rf [2,3,4,7,38] [1,17,129] (j6 _ (ai h) :)
 ·refine cq 4 [23,25] [.isl false (c_1.Clauses.map aj),I e4.Clause] 369 ?_
  obtain⟨e18,he18,h⟩:=bS h
  refine oy 385 (.iptr (ao e18) 0) rfl (au rfl rfl rfl (aV rfl rfl rfl rfl he18)) ?_
  refine cq 5 [31] [B (e18.Kind != 1)] 465 ?_
  obtain⟨y19,hy19,hy191,hy192⟩:=bL h
  have j19:∀u19,y19=.inr u19→Run pm 0 (gH (c_1,s_2,i_3) r) (.code (cR (cL (cR (cR jr))))::.code (cR (cR (cR jr)))::[]) (sT 114 [(2,I i_3),(3,.hp 1 0 [] 2 0 0),(4,.hp 2 0 [] 5 0 0),(7,.hp 3 0 [] 4 0 0),(38,B u19)] [⟨0,2,[ac c_1]⟩,⟨0,5,[ak s_2]⟩,⟨0,4,[ae e4]⟩] 4):=by
   intro u19 hu
   replace h:=hy192 u19 hu
   exact rf [2,3,4,7,38] [1,2,3] (j6 _ (ai h) :)
  have r19:∀r',y19=.inl r'→∀st,gH (c_1,s_2,i_3) r' st→(gH (c_1,s_2,i_3) r) st:=fun r' e st hq=>r6 r' (hy191 r' e) st hq
  replace h:=hy19
  refine sp 31 h rfl ?_ ?_<;>intro h
  ·refine cq 8 [38] [B true] 577 ?_
   exact rf [2,3,4,7,38] [1,17,129] (j19 _ (ai h) :)
  ·refine cq 4 [33,35] [I e4.Since,I s_2.Day] 529 ?_
   obtain⟨r20,hr20,h⟩:=bS h
   refine oy 545 (B r20) rfl (cP (gW hr20)) ?_
   refine cq 3 [38] [B (!r20)] 577 ?_
   exact rf [2,3,4,7,38] [1,17,129] (j19 _ (ai h) :)
theorem Vb {G:bU}:bQ G 162 Gp:=gT 3 0 (aJ ij (aJ U9 (aJ Qv (aJ A7 bv)))) ca Tryz.func162 (fun a r h=>Xl a.1 a.2.1 a.2.2 r h)
def Ih:Int→List V:=oA I
def Ii (r:Bool):V×List V:=(B r,[])
noncomputable def Gk :=ba [false] Ih Ii fun x=>Mv x
theorem abc {x_1:Int}{r}(h:Mv x_1=some r):Gk.F (Ih x_1)=some (Ii r):=aH (aI bC) h
noncomputable def abe :=aF Tryz.f164
noncomputable def Wu :=b9 [(99,gX)]
def abd (x:Int)(r:Bool):St→Prop:=QF Wu Tryz.f164 [false] (Ih x) (Ii r)
theorem Xg (x_1:Int)(r:Bool)(h:Mv x_1=some r):bp Wu Tryz.f164 [false] 0 (Ih x_1) (Ii r):=by
 show Run _ _ (abd x_1 r) [.code abe] _
 refine rI 5 [(0,I x_1)] [] 1 ?_
 unfold Mv at h
 refine cq 7 [3] [I x_1] 33 ?_
 obtain⟨r2,hr2,h⟩:=bS h
 refine oq 49 (B r2) rfl (cP (gW hr2)) ?_
 refine cq 2 [2] [B r2] 65 ?_
 obtain rfl:=sI h
 exact rP [B r2]
theorem U7 {G:bU}:bQ G 164 Gk:=gT 1 0 (aJ ij bv) ca Tryz.func164 (fun a r h=>Xg a r h)
def IG:Int→List V:=oA I
def IH (r:Bool):V×List V:=(B r,[])
noncomputable def Gu :=ba [false] IG IH fun x=>J1 x
theorem aby {b_1:Int}{r}(h:J1 b_1=some r):Gu.F (IG b_1)=some (IH r):=aH (aI bC) h
noncomputable def abA :=aF Tryz.f163
noncomputable def WB :=b9 [(164,Gk)]
def abz (x:Int)(r:Bool):St→Prop:=QF WB Tryz.f163 [false] (IG x) (IH r)
theorem Xq (b_1:Int)(r:Bool)(h:J1 b_1=some r):bp WB Tryz.f163 [false] 0 (IG b_1) (IH r):=by
 show Run _ _ (abz b_1 r) [.code abA] _
 refine rI 6 [(0,I b_1)] [] 1 ?_
 unfold J1 at h
 refine cq 7 [3] [I b_1] 33 ?_
 obtain⟨r2,hr2,h⟩:=bS h
 refine oq 49 (B r2) rfl (cP (abc hr2)) ?_
 refine cq 3 [2] [B (!r2)] 81 ?_
 obtain rfl:=sI h
 exact rP [B (!r2)]
theorem Vg {G:bU}:bQ G 163 Gu:=gT 1 0 (aJ U7 bv) ca Tryz.func163 (fun a r h=>Xq a r h)
def Dk:((List Int)×Unit)→List V:=cA (eW I) (oA (fun x:Unit=>(.fn 163 []:V)))
def Dl (r:Int):V×List V:=(I r,[])
noncomputable def Ae :=ba [false,false] Dk Dl fun x=>F3 x.1 x.2
theorem ZO {s_1:List Int}{f_2:Unit}{r}(h:F3 s_1 f_2=some r):Ae.F (Dk (s_1,f_2))=some (Dl r):=aH (aN (bu bC) (aI (MD ))) h
noncomputable def QP :=aF Tryz.f153
noncomputable def Jr :=b9 [(163,Gu)]
def QO (x:(List Int)×Unit)(r:Int):St→Prop:=QF Jr Tryz.f153 [false,false] (Dk x) (Dl r)
theorem LF (s_1:List Int)(f_2:Unit):cW Jr 0 (QO (s_1,f_2)) (cL (cL (cR (cL (cR QP))))) 0 (sd s_1 f_2) (fun u=>(sT 19 [] [] 1)) fun x3=>(sT 19 [(0,.isl false (s_1.map I)),(1,.fn 163 []),(7,I (len s_1)),(8,I x3)] [] 1):=eF (xL s_1 f_2) fun {Q K} hK self ih x3 y h hr hn=>by
 unfold mj at h
 refine cq 5 [9] [B (decide (x3<(len s_1)))] 17 ?_
 refine sq h ?_ ?_<;>intro h
 ·refine aq 1 ?_
  refine cq 12 [5,11,12,13] [I x3,.fn 163 [],.isl false (s_1.map I),I x3] 97 ?_
  obtain⟨e4,he4,h⟩:=bS h
  refine oq 113 (.iptr (I e4) 0) rfl (au rfl rfl rfl (aV rfl rfl rfl rfl he4)) ?_
  refine cq 1 [15] [I e4] 129 ?_
  obtain⟨r5,hr5,h⟩:=bS h
  refine oq 145 (B r5) rfl (cP (aby hr5)) ?_
  refine aq 1 ?_
  refine sq h ?_ ?_<;>intro h
  ·refine cq 5 [4] [I x3] 177 ?_
   exact b8 rfl (hr _ (ai h) _ (qp [I x3]))
  ·refine aq 1 ?_
   refine cq 5 [8] [I (az (x3+1))] 177 ?_
   refine dP ?_
   exact rf [0,1,7,8] [] (ih _ _ h hr hn :)
 ·refine aq 1 ?_
  exact rf [] [] (hn _ (ai h) :) (hk:=hK)
theorem Uk (s_1:List Int)(f_2:Unit)(r:Int)(h:F3 s_1 f_2=some r):bp Jr Tryz.f153 [false,false] 0 (Dk (s_1,f_2)) (Dl r):=by
 show Run _ _ (QO (s_1,f_2) r) [.code QP] _
 refine rI 19 [(0,.isl false (s_1.map I)),(1,.fn 163 [])] [] 1 ?_
 unfold F3 at h
 refine cq 8 [6] [.isl false (s_1.map I)] 33 ?_
 refine oq 49 (I (len s_1)) rfl (bq rfl rfl rfl (bB rfl)) ?_
 refine cq 3 [8] [I (0)] 65 ?_
 obtain⟨y6,hy6,hy61,hy62⟩:=bJ h
 refine ci rfl ?_
 refine rf [0,1,7,8] [] (LF s_1 f_2 rfl 0 _ hy6 (fun r' e st hq=>by rw[hy61 r' e] at hq;exact hq) fun u6 hu=>?_)
 replace h:=hy62 u6 hu
 refine cq 4 [4] [I (-1)] 17 ?_
 obtain rfl:=sI h
 exact rP [I (-1)]
theorem QQ {G:bU}:bQ G 153 Ae:=gT 2 0 (aJ Vg bv) ca Tryz.func153 (fun a r h=>Uk a.1 a.2 r h)
def C5:((List Int)×Unit)→List V:=cA (eW I) (oA (fun x:Unit=>(.fn 163 []:V)))
def C6 (r:Bool):V×List V:=(B r,[])
noncomputable def zX :=ba [false,false] C5 C6 fun x=>FW x.1 x.2
theorem ZC {s_1:List Int}{f_2:Unit}{r}(h:FW s_1 f_2=some r):zX.F (C5 (s_1,f_2))=some (C6 r):=aH (aN (bu bC) (aI (MD ))) h
noncomputable def ZE :=aF Tryz.f115
noncomputable def Qw :=b9 [(153,Ae)]
def ZD (x:(List Int)×Unit)(r:Bool):St→Prop:=QF Qw Tryz.f115 [false,false] (C5 x) (C6 r)
theorem Uc (s_1:List Int)(f_2:Unit)(r:Bool)(h:FW s_1 f_2=some r):bp Qw Tryz.f115 [false,false] 0 (C5 (s_1,f_2)) (C6 r):=by
 show Run _ _ (ZD (s_1,f_2) r) [.code ZE] _
 refine rI 9 [(0,.isl false (s_1.map I)),(1,.fn 163 [])] [] 1 ?_
 unfold FW at h
 refine cq 8 [5,6] [.isl false (s_1.map I),.fn 163 []] 49 ?_
 obtain⟨r3,hr3,h⟩:=bS h
 refine oq 65 (I r3) rfl (cP (ZO hr3)) ?_
 refine cq 3 [4] [B (decide (r3≥0))] 97 ?_
 obtain rfl:=sI h
 exact rP [B (decide (r3≥0))]
theorem Qx {G:bU}:bQ G 115 zX:=gT 2 0 (aJ QQ bv) ca Tryz.func115 (fun a r h=>Uc a.1 a.2 r h)
def IB:(Contract×State)→List V:=cA aO (oA b7)
def IC (r:Bool):V×List V:=(B r,[])
noncomputable def Gs :=ba [false,false] IB IC fun x=>JZ x.1 x.2
theorem abu {c_1:Contract}{s_2:State}{r}(h:JZ c_1 s_2=some r):Gs.F (IB (c_1,s_2))=some (IC r):=aH (aN aZ (aI cY)) h
noncomputable def oe :=aF Tryz.f127
noncomputable def tN :=b9 [(101,sK),(78,sL),(162,Gp),(115,zX),(161,yT),(158,Gr),(159,zY)]
def kb (x:Contract×State)(r:Bool):St→Prop:=QF tN Tryz.f127 [false,false] (IB x) (IC r)
theorem NK (c_1:Contract)(s_2:State):cW tN 0 (kb (c_1,s_2)) (cL (cL (cR (cL (cR (cR (cR (cR oe)))))))) 0 (oO c_1 s_2) (fun u=>(sT 60 [(3,.hp 1 0 [] 5 0 0)] [⟨0,5,[ak s_2]⟩] 2)) fun x7=>(sT 60 [(2,.hp 1 0 [] 2 0 0),(3,.hp 2 0 [] 5 0 0),(46,I (len s_2.Duties)),(47,I x7)] [⟨0,2,[ac c_1]⟩,⟨0,5,[ak s_2]⟩] 3):=eF (EX c_1 s_2) fun {Q K} hK self ih x7 y h hr hn=>by
 unfold lV at h
 refine cq 5 [48] [B (decide (x7<(len s_2.Duties)))] 19 ?_
 refine sq h ?_ ?_<;>intro h
 ·refine aq 1 ?_
  refine cq 12 [50,51,52] [ac c_1,ak s_2,I x7] 99 ?_
  obtain⟨r8,hr8,h⟩:=bS h
  refine oq 115 (B r8) rfl (cP (abo hr8)) ?_
  refine cq 2 [54] [B (!r8)] 131 ?_
  refine sq h ?_ ?_<;>intro h
  ·refine cq 4 [4] [B false] 147 ?_
   exact b8 rfl (hr _ (ai h) _ (qp [B false]))
  ·refine aq 1 ?_
   refine cq 5 [47] [I (az (x7+1))] 163 ?_
   refine dP ?_
   exact rf [2,3,46,47] [1,2] (ih _ _ h hr hn :)
 ·refine aq 1 ?_
  exact rf [3] [2] (hn _ (ai h) :) (hk:=hK)
theorem Xo (c_1:Contract)(s_2:State)(r:Bool)(h:JZ c_1 s_2=some r):bp tN Tryz.f127 [false,false] 0 (IB (c_1,s_2)) (IC r):=by
 show Run _ _ (kb (c_1,s_2) r) [.code oe] _
 refine rI 60 [(0,ac c_1),(1,ak s_2)] [] 1 ?_
 unfold JZ at h
 refine ck 9 [2,3,7] [] [1,17] [] [.hp 1 0 [] 2 0 0,.hp 17 0 [] 5 0 0,ac c_1] [some ⟨0,2,[ac c_1]⟩,some ⟨0,5,[ak s_2]⟩] 65 (by kernel_rfl) ?_
 obtain⟨r3,hr3,h⟩:=bS h
 refine oq 81 (.hs 65 0 [] 1 0 (r3.map str).length) rfl (cP (Ie hr3)) ?_
 refine ck 1 [5] [] [81] [] [.hp 81 0 [] 1 0 0] [some ⟨0,1,[.isl true []]⟩] 97 (by kernel_rfl) ?_
 refine eJ 81 [.usl 1 (([]).map str)] rfl rfl (aD (.nil _) dT) ?_
 refine o0 113 rfl rfl (gw rfl rfl (fp (path:=[]) (pl:=false) (e':=.usl 1 (r3.map str)) (es2':=[.usl 1 (r3.map str)]) rfl (eO rfl (cN rfl rfl)) rfl rfl rfl bb rfl rfl rfl rfl rfl d8 2 rfl)) ?_
 refine cq 6 [10] [I s_2.Day] 145 ?_
 obtain⟨r4,hr4,h⟩:=bS h
 refine oq 161 (B r4) rfl (cP (tM hr4)) ?_
 refine cq 2 [13] [B (!r4)] 193 ?_
 obtain⟨y5,hy5,hy51,hy52⟩:=bJ h
 have j5:∀u5,y5=.inr u5→Run tN 0 (kb (c_1,s_2) r) (.code (cR (cL (cR (cR oe))))::.code (cR (cR (cR oe)))::[]) (sT 60 [(2,.hp 1 0 [] 2 0 0),(3,.hp 2 0 [] 5 0 0),(24,B u5)] [⟨0,2,[ac c_1]⟩,⟨0,5,[ak s_2]⟩] 3):=by
  intro u5 hu
  replace h:=hy52 u5 hu
  refine sq h ?_ ?_<;>intro h
  ·refine cq 4 [4] [B false] 19 ?_
   obtain rfl:=sI h
   exact rP [B false]
  ·refine aq 1 ?_
   refine cq 5 [26] [.isl false (s_2.Duties.map ae)] 35 ?_
   refine oq 51 (I (len s_2.Duties)) rfl (bq rfl rfl rfl (bB rfl)) ?_
   refine cq 2 [29] [B (decide ((len s_2.Duties)>24))] 83 ?_
   obtain⟨y6,hy6,hy61,hy62⟩:=bJ h
   have j6:∀u6,y6=.inr u6→Run tN 0 (kb (c_1,s_2) r) (.code (cR (cL (cR (cR (cR oe)))))::.code (cR (cR (cR (cR oe))))::[]) (sT 60 [(2,.hp 1 0 [] 2 0 0),(3,.hp 2 0 [] 5 0 0),(43,B u6)] [⟨0,2,[ac c_1]⟩,⟨0,5,[ak s_2]⟩] 3):=by
    intro u6 hu
    replace h:=hy62 u6 hu
    refine sq h ?_ ?_<;>intro h
    ·refine cq 4 [4] [B false] 19 ?_
     obtain rfl:=sI h
     exact rP [B false]
    ·refine aq 1 ?_
     refine cq 5 [45] [.isl false (s_2.Duties.map ae)] 35 ?_
     refine oq 51 (I (len s_2.Duties)) rfl (bq rfl rfl rfl (bB rfl)) ?_
     refine cq 3 [47] [I (0)] 67 ?_
     obtain⟨y9,hy9,hy91,hy92⟩:=bJ h
     refine ci rfl ?_
     refine rf [2,3,46,47] [1,2] (NK c_1 s_2 rfl 0 _ hy9 (fun r' e st hq=>by rw[hy91 r' e] at hq;exact hq) fun u9 hu=>?_)
     replace h:=hy92 u9 hu
     refine cq 4 [57] [.isl false (s_2.Balances.map I)] 34 ?_
     obtain⟨r10,hr10,h⟩:=bS h
     refine oq 50 (B r10) rfl (cP (ZC hr10)) ?_
     refine cq 3 [4] [B (!r10)] 82 ?_
     obtain rfl:=sI h
     exact rP [B (!r10)]
   have r6:∀r',y6=.inl r'→∀st,kb (c_1,s_2) r' st→(kb (c_1,s_2) r) st:=fun r' e st hq=>by rw[hy61 r' e] at hq;exact hq
   replace h:=hy6
   refine sp 29 h rfl ?_ ?_<;>intro h
   ·refine cq 15 [43] [B true] 307 ?_
    exact rf [2,3,43] [1,2] (j6 _ (ai h) :)
   ·refine cq 2 [31] [.isl false (s_2.Balances.map I)] 115 ?_
    refine oy 131 (I (len s_2.Balances)) rfl (bq rfl rfl rfl (bB rfl)) ?_
    refine cq 2 [34] [.isl false (c_1.Parties.map str)] 163 ?_
    refine oy 179 (I (len c_1.Parties)) rfl (bq rfl rfl rfl (bB rfl)) ?_
    refine cq 3 [38] [B ((len s_2.Balances) != (len c_1.Parties))] 227 ?_
    obtain⟨y11,hy11,hy111,hy112⟩:=bL h
    have j11:∀u11,y11=.inr u11→Run tN 0 (kb (c_1,s_2) r) (.code (cR (cL (cR (cR (cR oe)))))::.code (cR (cR (cR (cR oe))))::[]) (sT 60 [(2,.hp 1 0 [] 2 0 0),(3,.hp 2 0 [] 5 0 0),(43,B u11)] [⟨0,2,[ac c_1]⟩,⟨0,5,[ak s_2]⟩] 3):=by
     intro u11 hu
     replace h:=hy112 u11 hu
     exact rf [2,3,43] [1,2] (j6 _ (ai h) :)
    have r11:∀r',y11=.inl r'→∀st,kb (c_1,s_2) r' st→(kb (c_1,s_2) r) st:=fun r' e st hq=>r6 r' (hy111 r' e) st hq
    replace h:=hy11
    refine sp 38 h rfl ?_ ?_<;>intro h
    ·refine cq 6 [43] [B true] 307 ?_
     exact rf [2,3,43] [1,2] (j11 _ (ai h) :)
    ·refine cq 2 [40] [.isl false (s_2.Balances.map I)] 259 ?_
     obtain⟨r12,hr12,h⟩:=bS h
     refine oy 275 (I r12) rfl (cP (Yu hr12)) ?_
     refine cq 3 [43] [B (r12 != 0)] 307 ?_
     exact rf [2,3,43] [1,2] (j11 _ (ai h) :)
 have r5:∀r',y5=.inl r'→∀st,kb (c_1,s_2) r' st→(kb (c_1,s_2) r) st:=fun r' e st hq=>by rw[hy51 r' e] at hq;exact hq
 replace h:=hy5
 refine sp 13 h rfl ?_ ?_<;>intro h
 ·refine cq 12 [24] [B true] 369 ?_
  exact rf [2,3,24] [1,17] (j5 _ (ai h) :)
 ·refine cq 2 [15] [.isl false (s_2.Facts.map str)] 225 ?_
  obtain⟨r13,hr13,h⟩:=bS h
  refine oy 241 (B r13) rfl (cP (abt hr13)) ?_
  refine cq 3 [19] [B (!r13)] 289 ?_
  obtain⟨y14,hy14,hy141,hy142⟩:=bL h
  have j14:∀u14,y14=.inr u14→Run tN 0 (kb (c_1,s_2) r) (.code (cR (cL (cR (cR oe))))::.code (cR (cR (cR oe)))::[]) (sT 60 [(2,.hp 1 0 [] 2 0 0),(3,.hp 2 0 [] 5 0 0),(24,B u14)] [⟨0,2,[ac c_1]⟩,⟨0,5,[ak s_2]⟩] 3):=by
   intro u14 hu
   replace h:=hy142 u14 hu
   exact rf [2,3,24] [1,2] (j5 _ (ai h) :)
  have r14:∀r',y14=.inl r'→∀st,kb (c_1,s_2) r' st→(kb (c_1,s_2) r) st:=fun r' e st hq=>r5 r' (hy141 r' e) st hq
  replace h:=hy14
  refine sp 19 h rfl ?_ ?_<;>intro h
  ·refine cq 6 [24] [B true] 369 ?_
   exact rf [2,3,24] [1,17] (j14 _ (ai h) :)
  ·refine cq 3 [21,22] [.isl false (s_2.Facts.map str),.fn 160 [.hp 81 0 [] 1 0 0]] 337 ?_
   obtain⟨r15,hr15,h⟩:=bS h
   refine oy 353 (B r15) rfl (cd rfl rfl (cO rfl rfl rfl (bw (bR rfl) (bw (Hz (d6 (kR (path:=[]) rfl rfl bb rfl (ug (ce fh))) lr)) dB)) (ZF hr15) (.inl rfl) d9 rfl rfl rfl)) ?_
   refine cq 2 [24] [B r15] 369 ?_
   exact rf [2,3,24] [1,17] (j14 _ (ai h) :)
theorem Ve {G:bU}:bQ G 127 Gs:=gT 2 0 (aJ A6 (aJ A7 (aJ Vb (aJ Qx (aJ OW (aJ Vd (aJ Qz bv))))))) ca Tryz.func127 (fun a r h=>Xo a.1 a.2 r h)
def HV:(Contract×State)→List V:=cA aO (oA b7)
def HX (r:Bool):V×List V:=(B r,[])
noncomputable def F1 :=ba [false,false] HV HX fun x=>GY x.1 x.2
theorem aa0 {c_1:Contract}{s_2:State}{r}(h:GY c_1 s_2=some r):F1.F (HV (c_1,s_2))=some (HX r):=aH (aN aZ (aI cY)) h
noncomputable def Wl :=aF Tryz.f77
noncomputable def Nr :=b9 [(47,FP),(127,Gs)]
def HW (x:Contract×State)(r:Bool):St→Prop:=QF Nr Tryz.f77 [false,false] (HV x) (HX r)
theorem WX (c_1:Contract)(s_2:State)(r:Bool)(h:GY c_1 s_2=some r):bp Nr Tryz.f77 [false,false] 0 (HV (c_1,s_2)) (HX r):=by
 show Run _ _ (HW (c_1,s_2) r) [.code Wl] _
 refine rI 12 [(0,ac c_1),(1,ak s_2)] [] 1 ?_
 unfold GY at h
 refine ck 9 [2,3,5] [] [1,17] [] [.hp 1 0 [] 2 0 0,.hp 17 0 [] 5 0 0,ac c_1] [some ⟨0,2,[ac c_1]⟩,some ⟨0,5,[ak s_2]⟩] 65 (by kernel_rfl) ?_
 obtain⟨r3,hr3,h⟩:=bS h
 refine oq 81 (B r3) rfl (cP (aaZ hr3)) ?_
 refine cq 1 [7] [B r3] 97 ?_
 obtain⟨y4,hy4,hy41,hy42⟩:=bJ h
 have j4:∀u4,y4=.inr u4→Run Nr 0 (HW (c_1,s_2) r) (.code (cR (cR Wl))::[]) (sT 12 [(4,B u4)] [] 1):=by
  intro u4 hu
  replace h:=hy42 u4 hu
  obtain rfl:=sI h
  exact rP [B u4]
 have r4:∀r',y4=.inl r'→∀st,HW (c_1,s_2) r' st→(HW (c_1,s_2) r) st:=fun r' e st hq=>by rw[hy41 r' e] at hq;exact hq
 replace h:=hy4
 refine sp 7 h rfl ?_ ?_<;>intro h
 ·refine cq 2 [8,9] [ac c_1,ak s_2] 129 ?_
  obtain⟨r5,hr5,h⟩:=bS h
  refine oy 145 (B r5) rfl (cP (abu hr5)) ?_
  refine cq 3 [4] [B r5] 177 ?_
  exact rf [4] [] (j4 _ (ai h) :)
 ·refine cq 6 [4] [B false] 177 ?_
  exact rf [4] [] (j4 _ (ai h) :)
theorem Ui {G:bU}:bQ G 77 F1:=gT 2 0 (aJ Tk (aJ Ve bv)) ca Tryz.func77 (fun a r h=>WX a.1 a.2 r h)
def H4:(Contract×State×Int×aa)→List V:=cA aO (cA b7 (cA I (oA str)))
def H5 (r:Bool):V×List V:=(B r,[])
noncomputable def Gf :=ba [false,false,false,false] H4 H5 fun x=>JQ x.1 x.2.1 x.2.2.1 x.2.2.2
theorem aa5 {c_1:Contract}{s_2:State}{aE:Int}{aA:aa}{r}(h:JQ c_1 s_2 aE aA=some r):Gf.F (H4 (c_1,s_2,aE,aA))=some (H5 r):=aH (aN aZ (aN cY (aN bC (aI bc)))) h
noncomputable def H6 :=aF Tryz.f59
noncomputable def EL :=b9 [(77,F1),(99,gX),(81,nM)]
def od (x:Contract×State×Int×aa)(r:Bool):St→Prop:=QF EL Tryz.f59 [false,false,false,false] (H4 x) (H5 r)
theorem W8 (c_1:Contract)(s_2:State)(aE:Int)(aA:aa)(r:Bool)(h:JQ c_1 s_2 aE aA=some r):bp EL Tryz.f59 [false,false,false,false] 0 (H4 (c_1,s_2,aE,aA)) (H5 r):=by
 show Run _ _ (od (c_1,s_2,aE,aA) r) [.code H6] _
 refine rI 29 [(0,ac c_1),(1,ak s_2),(2,I aE),(3,str aA)] [] 1 ?_
 unfold JQ at h
 refine ck 10 [4,5,9,10] [] [1,17] [] [.hp 1 0 [] 2 0 0,.hp 17 0 [] 5 0 0,ac c_1,ak s_2] [some ⟨0,2,[ac c_1]⟩,some ⟨0,5,[ak s_2]⟩] 81 (by kernel_rfl) ?_
 obtain⟨r5,hr5,h⟩:=bS h
 refine oq 97 (B r5) rfl (cP (aa0 hr5)) ?_
 refine cq 1 [12] [B r5] 113 ?_
 obtain⟨y6,hy6,hy61,hy62⟩:=bJ h
 have j6:∀u6,y6=.inr u6→Run EL 0 (od (c_1,s_2,aE,aA) r) (.code (cR (cR H6))::[]) (sT 29 [(8,B u6)] [] 1):=by
  intro u6 hu
  replace h:=hy62 u6 hu
  obtain rfl:=sI h
  exact rP [B u6]
 have r6:∀r',y6=.inl r'→∀st,od (c_1,s_2,aE,aA) r' st→(od (c_1,s_2,aE,aA) r) st:=fun r' e st hq=>by rw[hy61 r' e] at hq;exact hq
 replace h:=hy6
 refine sp 12 h rfl ?_ ?_<;>intro h
 ·refine cq 5 [17] [B (!s_2.Over)] 193 ?_
  obtain⟨y7,hy7,hy71,hy72⟩:=bL h
  have j7:∀u7,y7=.inr u7→Run EL 0 (od (c_1,s_2,aE,aA) r) (.code (cR (cR H6))::[]) (sT 29 [(8,B u7)] [] 1):=by
   intro u7 hu
   replace h:=hy72 u7 hu
   exact rf [8] [] (j6 _ (ai h) :)
  have r7:∀r',y7=.inl r'→∀st,od (c_1,s_2,aE,aA) r' st→(od (c_1,s_2,aE,aA) r) st:=fun r' e st hq=>r6 r' (hy71 r' e) st hq
  replace h:=hy7
  refine sp 17 h rfl ?_ ?_<;>intro h
  ·refine cq 3 [18,20] [I aE,.isl false (c_1.Parties.map str)] 241 ?_
   refine oy 257 (I (len c_1.Parties)) rfl (bq rfl rfl rfl (bB rfl)) ?_
   refine cq 1 [22] [I (az ((len c_1.Parties) - 1))] 273 ?_
   obtain⟨r8,hr8,h⟩:=bS h
   refine oy 289 (B r8) rfl (cP (gW hr8)) ?_
   refine cq 2 [25] [B r8] 321 ?_
   obtain⟨y9,hy9,hy91,hy92⟩:=bL h
   have j9:∀u9,y9=.inr u9→Run EL 0 (od (c_1,s_2,aE,aA) r) (.code (cR (cR H6))::[]) (sT 29 [(8,B u9)] [] 1):=by
    intro u9 hu
    replace h:=hy92 u9 hu
    exact rf [8] [] (j7 _ (ai h) :)
   have r9:∀r',y9=.inl r'→∀st,od (c_1,s_2,aE,aA) r' st→(od (c_1,s_2,aE,aA) r) st:=fun r' e st hq=>r7 r' (hy91 r' e) st hq
   replace h:=hy9
   refine sp 25 h rfl ?_ ?_<;>intro h
   ·refine cq 1 [26] [str aA] 337 ?_
    obtain⟨r10,hr10,h⟩:=bS h
    refine oy 353 (B r10) rfl (cP (wM hr10)) ?_
    refine cq 3 [8] [B r10] 385 ?_
    exact rf [8] [] (j9 _ (ai h) :)
   ·refine cq 5 [8] [B false] 385 ?_
    exact rf [8] [] (j9 _ (ai h) :)
  ·refine cq 13 [8] [B false] 385 ?_
   exact rf [8] [] (j7 _ (ai h) :)
 ·refine cq 18 [8] [B false] 385 ?_
  exact rf [8] [] (j6 _ (ai h) :)
theorem U2 {G:bU}:bQ G 59 Gf:=gT 4 0 (aJ Ui (aJ ij (aJ pU bv))) ca Tryz.func59 (fun a r h=>W8 a.1 a.2.1 a.2.2.1 a.2.2.2 r h)
def CU:(List aa)→List V:=oA (eW str)
def CV (r:(List aa)):V×List V:=(.usl 1 (r.map str),[])
noncomputable def zS :=ba [false] CU CV fun x=>zR x
theorem Qp {s_1:List aa}{r}(h:zR s_1=some r):zS.F (CU s_1)=some (CV r):=aH (aI (bu bc)) h
noncomputable def Zu :=aF Tryz.f150
noncomputable def Qo :=b9 []
def Zt (x:(List aa))(r:(List aa)):St→Prop:=QF Qo Tryz.f150 [false] (CU x) (CV r)
theorem T8 (s_1:List aa)(r:(List aa))(h:zR s_1=some r):bp Qo Tryz.f150 [false] 0 (CU s_1) (CV r):=by
 show Run _ _ (Zt s_1 r) [.code Zu] _
 refine rI 8 [(0,.isl false (s_1.map str))] [] 1 ?_
 unfold zR at h
 refine cq 8 [3] [.isl false (s_1.map str)] 33 ?_
 refine nq (f:=str) (xs:=s_1) true 49 rfl h rfl rfl rfl rfl ?_ ?_<;>intro h
 ·refine aq 1 ?_
  refine o7 rfl rfl (fun _=>?_) (fun hb=>by cases hb)
  refine cq 4 [2] [.isl true []] 65 ?_
  refine xk 2 0 1 81 (.hs 65 0 [] 1 0 0) rfl rfl rfl rfl rfl ?_
  obtain rfl:=sI h
  exact b8 rfl ⟨_,fin (vs:=[.hs 65 0 [] 1 0 0]) rfl (fk (eO rfl (cN (k:=0) (es:=[]) rfl rfl)) ey) rfl (eP fu),fm⟩
 ·refine aq 1 ?_
  refine o7 rfl rfl (fun hb=>by cases hb) (fun _=>?_)
  refine aq 3 ?_
  refine oq 65 (.hs 49 0 [] 1 0 0) rfl (ft rfl (oo (f:=I) (xs:=[]) (z:=str ([])) (es:=[]) (ws:=[]) rfl rfl rfl (by decide) rfl (eo rfl) rfl)) ?_
  refine cq 1 [6] [.isl false (s_1.map str)] 81 ?_
  obtain⟨a2,ha2,h⟩:=bS h
  refine oq 97 (.hs 81 0 [] 1 0 (a2.map str).length) rfl (kG rfl rfl rfl rfl rfl (oP (path:=[]) (es0:=[]) (f:=str) (xs:=([]:List aa)) (ys:=s_1) rfl rfl Bw rfl rfl rfl rfl rfl (by decide) jp ha2 rfl qx)) ?_
  refine cq 2 [2] [.hs 81 0 [] 1 0 (a2.map str).length] 113 ?_
  obtain rfl:=sI h
  exact b8 rfl ⟨_,fin (vs:=[.hs 81 0 [] 1 0 (a2.map str).length]) rfl (fk (eO rfl (cN rfl rfl)) ey) rfl (eP fu),fm⟩
theorem Qq {G:bU}:bQ G 150 zS:=gT 1 0 bv ca Tryz.func150 (fun a r h=>T8 a r h)
def CQ:(List Duty)→List V:=oA (eW ae)
def CR (r:(List Duty)):V×List V:=(.usl 4 (r.map ae),[])
noncomputable def zO :=ba [false] CQ CR fun x=>zN x
theorem Qj {s_1:List Duty}{r}(h:zN s_1=some r):zO.F (CQ s_1)=some (CR r):=aH (aI (bu dH)) h
noncomputable def Zq :=aF Tryz.f151
noncomputable def Qi :=b9 []
def Zp (x:(List Duty))(r:(List Duty)):St→Prop:=QF Qi Tryz.f151 [false] (CQ x) (CR r)
theorem T6 (s_1:List Duty)(r:(List Duty))(h:zN s_1=some r):bp Qi Tryz.f151 [false] 0 (CQ s_1) (CR r):=by
 show Run _ _ (Zp s_1 r) [.code Zq] _
 refine rI 8 [(0,.isl false (s_1.map ae))] [] 1 ?_
 unfold zN at h
 refine cq 8 [3] [.isl false (s_1.map ae)] 33 ?_
 refine nq (f:=ae) (xs:=s_1) true 49 rfl h rfl rfl rfl rfl ?_ ?_<;>intro h
 ·refine aq 1 ?_
  refine o7 rfl rfl (fun _=>?_) (fun hb=>by cases hb)
  refine cq 4 [2] [.isl true []] 65 ?_
  refine xk 2 0 4 81 (.hs 65 0 [] 4 0 0) rfl rfl rfl rfl rfl ?_
  obtain rfl:=sI h
  exact b8 rfl ⟨_,fin (vs:=[.hs 65 0 [] 4 0 0]) rfl (fk (eO rfl (cN (k:=0) (es:=[]) rfl rfl)) ey) rfl (eP fu),fm⟩
 ·refine aq 1 ?_
  refine o7 rfl rfl (fun hb=>by cases hb) (fun _=>?_)
  refine aq 3 ?_
  refine oq 65 (.hs 49 0 [] 4 0 0) rfl (ft rfl (oo (f:=I) (xs:=[]) (z:=.agg [I (0),I (0),I (0),I (0)]) (es:=[]) (ws:=[]) rfl rfl rfl (by decide) rfl (eo rfl) rfl)) ?_
  refine cq 1 [6] [.isl false (s_1.map ae)] 81 ?_
  obtain⟨a2,ha2,h⟩:=bS h
  refine oq 97 (.hs 81 0 [] 4 0 (a2.map ae).length) rfl (kG rfl rfl rfl rfl rfl (oP (path:=[]) (es0:=[]) (f:=ae) (xs:=([]:List Duty)) (ys:=s_1) rfl rfl Bw rfl rfl rfl rfl rfl (by decide) sU ha2 rfl qx)) ?_
  refine cq 2 [2] [.hs 81 0 [] 4 0 (a2.map ae).length] 113 ?_
  obtain rfl:=sI h
  exact b8 rfl ⟨_,fin (vs:=[.hs 81 0 [] 4 0 (a2.map ae).length]) rfl (fk (eO rfl (cN rfl rfl)) ey) rfl (eP fu),fm⟩
theorem Qk {G:bU}:bQ G 151 zO:=gT 1 0 bv ca Tryz.func151 (fun a r h=>T6 a r h)
def CS:(List Int)→List V:=oA (eW I)
def CT (r:(List Int)):V×List V:=(.usl 1 (r.map I),[])
noncomputable def zQ :=ba [false] CS CT fun x=>zP x
theorem Qm {s_1:List Int}{r}(h:zP s_1=some r):zQ.F (CS s_1)=some (CT r):=aH (aI (bu bC)) h
noncomputable def Zs :=aF Tryz.f152
noncomputable def Ql :=b9 []
def Zr (x:(List Int))(r:(List Int)):St→Prop:=QF Ql Tryz.f152 [false] (CS x) (CT r)
theorem T7 (s_1:List Int)(r:(List Int))(h:zP s_1=some r):bp Ql Tryz.f152 [false] 0 (CS s_1) (CT r):=by
 show Run _ _ (Zr s_1 r) [.code Zs] _
 refine rI 8 [(0,.isl false (s_1.map I))] [] 1 ?_
 unfold zP at h
 refine cq 8 [3] [.isl false (s_1.map I)] 33 ?_
 refine nq (f:=I) (xs:=s_1) true 49 rfl h rfl rfl rfl rfl ?_ ?_<;>intro h
 ·refine aq 1 ?_
  refine o7 rfl rfl (fun _=>?_) (fun hb=>by cases hb)
  refine cq 4 [2] [.isl true []] 65 ?_
  refine xk 2 0 1 81 (.hs 65 0 [] 1 0 0) rfl rfl rfl rfl rfl ?_
  obtain rfl:=sI h
  exact b8 rfl ⟨_,fin (vs:=[.hs 65 0 [] 1 0 0]) rfl (fk (eO rfl (cN (k:=0) (es:=[]) rfl rfl)) ey) rfl (eP fu),fm⟩
 ·refine aq 1 ?_
  refine o7 rfl rfl (fun hb=>by cases hb) (fun _=>?_)
  refine aq 3 ?_
  refine oq 65 (.hs 49 0 [] 1 0 0) rfl (ft rfl (oo (f:=I) (xs:=[]) (z:=I (0)) (es:=[]) (ws:=[]) rfl rfl rfl (by decide) rfl (eo rfl) rfl)) ?_
  refine cq 1 [6] [.isl false (s_1.map I)] 81 ?_
  obtain⟨a2,ha2,h⟩:=bS h
  refine oq 97 (.hs 81 0 [] 1 0 (a2.map I).length) rfl (kG rfl rfl rfl rfl rfl (oP (path:=[]) (es0:=[]) (f:=I) (xs:=([]:List Int)) (ys:=s_1) rfl rfl Bw rfl rfl rfl rfl rfl (by decide) Xt ha2 rfl qx)) ?_
  refine cq 2 [2] [.hs 81 0 [] 1 0 (a2.map I).length] 113 ?_
  obtain rfl:=sI h
  exact b8 rfl ⟨_,fin (vs:=[.hs 81 0 [] 1 0 (a2.map I).length]) rfl (fk (eO rfl (cN rfl rfl)) ey) rfl (eP fu),fm⟩
theorem Qn {G:bU}:bQ G 152 zQ:=gT 1 0 bv ca Tryz.func152 (fun a r h=>T7 a r h)
def BG:State→List V:=oA b7
def BH (r:State):V×List V:=(.agg [I r.Day,.usl 1 (r.Facts.map str),.usl 4 (r.Duties.map ae),.usl 1 (r.Balances.map I),B r.Over],[])
noncomputable def yQ :=ba [false] BG BH fun x=>yP x
theorem OP {s_1:State}{r}(h:yP s_1=some r):yQ.F (BG s_1)=some (BH r):=aH (aI cY) h
noncomputable def Yq :=aF Tryz.f109
noncomputable def OO :=b9 [(150,zS),(151,zO),(152,zQ)]
def Yp (x:State)(r:State):St→Prop:=QF OO Tryz.f109 [false] (BG x) (BH r)
theorem Tn (s_1:State)(r:State)(h:yP s_1=some r):bp OO Tryz.f109 [false] 0 (BG s_1) (BH r):=by
 show Run _ _ (Yp s_1 r) [.code Yq] _
 refine rI 16 [(0,ak s_1)] [] 1 ?_
 unfold yP at h
 refine ck 4 [1,2] [] [1,17] [] [.hp 1 0 [] 5 0 0,.hp 17 0 [] 5 0 0] [some ⟨0,5,[ak s_1]⟩,some ⟨0,5,[.agg [I (0),.isl true [],.isl true [],.isl true [],B false]]⟩] 33 (by kernel_rfl) ?_
 refine eJ 17 [.agg [I (0),.usl 1 (([]).map str),.usl 4 (([]).map ae),.usl 1 (([]).map I),B false]] rfl rfl (aD (fD (aD (.refl _) (aD (.nil _) (aD (.nil _) (aD (.nil _) (aD (.refl _) dT)))))) dT) ?_
 refine aq 2 ?_
 refine ez [0,1,3,0,8,31,0,64,255,223,1023,2047,4095,8191,16383] rfl (by decide +kernel) ?_
 refine dq [1] [] (.hp 1 0 [] 5 0 1) rfl (al rfl rfl rfl) ?_
 refine dq [1] [] (.isl false (s_1.Facts.map str)) rfl (aY rfl rfl) ?_
 obtain⟨r2,hr2,h⟩:=bS h
 refine dq [] [] (.hs 65 0 [] 1 0 (r2.map str).length) rfl (cP (Qp hr2)) ?_ (dE rfl rfl rfl rfl (bw (bR rfl) dB) (Qp hr2) (.inr rfl) rfl)
 refine dq [1] [] (.hp 1 0 [] 5 0 2) rfl (al rfl rfl rfl) ?_
 refine dq [1] [] (.isl false (s_1.Duties.map ae)) rfl (aY rfl rfl) ?_
 obtain⟨r3,hr3,h⟩:=bS h
 refine dq [] [] (.hs 113 0 [] 4 0 (r3.map ae).length) rfl (cP (Qj hr3)) ?_ (dE rfl rfl rfl rfl (bw (bR rfl) dB) (Qj hr3) (.inr rfl) rfl)
 refine dq [1] [] (.hp 1 0 [] 5 0 3) rfl (al rfl rfl rfl) ?_
 refine dq [1] [] (.isl false (s_1.Balances.map I)) rfl (aY rfl rfl) ?_
 obtain⟨r4,hr4,h⟩:=bS h
 refine dq [] [] (.hs 161 0 [] 1 0 (r4.map I).length) rfl (cP (Qm hr4)) ?_ (dE rfl rfl rfl rfl (bw (bR rfl) dB) (Qm hr4) (.inr rfl) rfl)
 refine dq [1] [] (.hp 1 0 [] 5 0 1) rfl (al rfl rfl rfl) ?_
 refine dz [1,65] [1,65] rfl (gw rfl rfl (fp (path:=[]) (pl:=false) (e':=.agg [I s_1.Day,.usl 1 (r2.map str),.isl false (s_1.Duties.map ae),.isl false (s_1.Balances.map I),B s_1.Over]) (es2':=[.agg [I s_1.Day,.usl 1 (r2.map str),.isl false (s_1.Duties.map ae),.isl false (s_1.Balances.map I),B s_1.Over]]) rfl (eO rfl (cN rfl rfl)) rfl rfl rfl bb rfl rfl rfl rfl rfl d8 1 rfl)) ?_
 refine dq [1] [] (.hp 1 0 [] 5 0 2) rfl (al rfl rfl rfl) ?_
 refine dz [1,113] [1,113] rfl (gw rfl rfl (fp (path:=[]) (pl:=false) (e':=.agg [I s_1.Day,.usl 1 (r2.map str),.usl 4 (r3.map ae),.isl false (s_1.Balances.map I),B s_1.Over]) (es2':=[.agg [I s_1.Day,.usl 1 (r2.map str),.usl 4 (r3.map ae),.isl false (s_1.Balances.map I),B s_1.Over]]) rfl (eO rfl (cN rfl rfl)) rfl rfl rfl bb rfl rfl rfl rfl rfl d8 2 rfl)) ?_
 refine dq [1] [] (.hp 1 0 [] 5 0 3) rfl (al rfl rfl rfl) ?_
 refine dz [1,161] [1,161] rfl (gw rfl rfl (fp (path:=[]) (pl:=false) (e':=.agg [I s_1.Day,.usl 1 (r2.map str),.usl 4 (r3.map ae),.usl 1 (r4.map I),B s_1.Over]) (es2':=[.agg [I s_1.Day,.usl 1 (r2.map str),.usl 4 (r3.map ae),.usl 1 (r4.map I),B s_1.Over]]) rfl (eO rfl (cN rfl rfl)) rfl rfl rfl bb rfl rfl rfl rfl rfl d8 3 rfl)) ?_
 refine de 273 rfl rfl ?_
 refine cq 3 [15] [.agg [I s_1.Day,.hs 1 3 [(0,1)] 1 0 (r2.map str).length,.hs 1 3 [(0,2)] 4 0 (r3.map ae).length,.hs 1 3 [(0,3)] 1 0 (r4.map I).length,B s_1.Over]] 289 ?_
 refine o0 305 rfl rfl (gw rfl rfl (fp (path:=[]) (pl:=false) (e':=.agg [I s_1.Day,.usl 1 (r2.map str),.usl 4 (r3.map ae),.usl 1 (r4.map I),B s_1.Over]) (es2':=[.agg [I s_1.Day,.usl 1 (r2.map str),.usl 4 (r3.map ae),.usl 1 (r4.map I),B s_1.Over]]) rfl (ls (bK (co rfl) (bK (fq (path:=[(0,1)]) rfl rfl (eU rfl rfl bb) rfl (je (path:=[]) (i:=0) (k:=1) (e':=.agg [I s_1.Day,.dead,.usl 4 (r3.map ae),.usl 1 (r4.map I),B s_1.Over]) (es2':=[.agg [I s_1.Day,.dead,.usl 4 (r3.map ae),.usl 1 (r4.map I),B s_1.Over]]) bb rfl rfl rfl d8)) (bK (fq (path:=[(0,2)]) rfl rfl (eU rfl rfl bb) rfl (je (path:=[]) (i:=0) (k:=2) (e':=.agg [I s_1.Day,.dead,.dead,.usl 1 (r4.map I),B s_1.Over]) (es2':=[.agg [I s_1.Day,.dead,.dead,.usl 1 (r4.map I),B s_1.Over]]) bb rfl rfl rfl d8)) (bK (fq (path:=[(0,3)]) rfl rfl (eU rfl rfl bb) rfl (je (path:=[]) (i:=0) (k:=3) (e':=.agg [I s_1.Day,.dead,.dead,.dead,B s_1.Over]) (es2':=[.agg [I s_1.Day,.dead,.dead,.dead,B s_1.Over]]) bb rfl rfl rfl d8)) (bK (co rfl) lu)))))) rfl rfl rfl bb rfl rfl rfl rfl rfl d8 2 rfl)) ?_
 refine aq 1 ?_
 obtain rfl:=sI h
 exact b8 rfl ⟨_,fin (vs:=[.agg [I s_1.Day,.hs 17 2 [(0,1)] 1 0 (r2.map str).length,.hs 17 2 [(0,2)] 4 0 (r3.map ae).length,.hs 17 2 [(0,3)] 1 0 (r4.map I).length,B s_1.Over]]) (GJ (pS rfl rfl rfl) GK) (fk (ls (bK (co rfl) (bK (fq (path:=[(0,1)]) rfl rfl (eU rfl rfl bb) rfl (je (path:=[]) (i:=0) (k:=1) (e':=.agg [I s_1.Day,.dead,.usl 4 (r3.map ae),.usl 1 (r4.map I),B s_1.Over]) (es2':=[.agg [I s_1.Day,.dead,.usl 4 (r3.map ae),.usl 1 (r4.map I),B s_1.Over]]) bb rfl rfl rfl d8)) (bK (fq (path:=[(0,2)]) rfl rfl (eU rfl rfl bb) rfl (je (path:=[]) (i:=0) (k:=2) (e':=.agg [I s_1.Day,.dead,.dead,.usl 1 (r4.map I),B s_1.Over]) (es2':=[.agg [I s_1.Day,.dead,.dead,.usl 1 (r4.map I),B s_1.Over]]) bb rfl rfl rfl d8)) (bK (fq (path:=[(0,3)]) rfl rfl (eU rfl rfl bb) rfl (je (path:=[]) (i:=0) (k:=3) (e':=.agg [I s_1.Day,.dead,.dead,.dead,B s_1.Over]) (es2':=[.agg [I s_1.Day,.dead,.dead,.dead,B s_1.Over]]) bb rfl rfl rfl d8)) (bK (co rfl) lu)))))) ey) rfl (eP fu),fm⟩
theorem OQ {G:bU}:bQ G 109 yQ:=gT 1 0 (aJ Qq (aJ Qk (aJ Qn bv))) ca Tryz.func109 (fun a r h=>Tn a r h)
def II:(Contract×State)→List V:=cA aO (oA b7)
def IJ (r:machine):V×List V:=(.uptr (Kk r),[])
noncomputable def Gv :=ba [false,false] II IJ fun x=>J2 x.1 x.2
theorem abB {c_1:Contract}{s_2:State}{r}(h:J2 c_1 s_2=some r):Gv.F (II (c_1,s_2))=some (IJ r):=aH (aN aZ (aI cY)) h
noncomputable def abD :=aF Tryz.f60
noncomputable def WC :=b9 [(109,yQ),(101,sK)]
def abC (x:Contract×State)(r:machine):St→Prop:=QF WC Tryz.f60 [false,false] (II x) (IJ r)
theorem Xr (c_1:Contract)(s_2:State)(r:machine)(h:J2 c_1 s_2=some r):bp WC Tryz.f60 [false,false] 0 (II (c_1,s_2)) (IJ r):=by
 show Run _ _ (abC (c_1,s_2) r) [.code abD] _
 refine rI 12 [(0,ac c_1),(1,ak s_2)] [] 1 ?_
 unfold J2 at h
 refine ck 7 [2,3] [] [1,17] [] [.hp 1 0 [] 2 0 0,.hp 17 0 [] 5 0 0] [some ⟨0,2,[ac c_1]⟩,some ⟨0,5,[ak s_2]⟩] 49 (by kernel_rfl) ?_
 refine ez [0,0,2,0,14,31,63,127] rfl (by decide +kernel) ?_
 refine dq [1] [] (ac c_1) rfl (aY rfl rfl) ?_
 refine dq [17] [] (ak s_2) rfl (aY rfl rfl) ?_
 obtain⟨r3,hr3,h⟩:=bS h
 refine dq [] [] (.agg [I r3.Day,.hs 81 0 [] 1 0 (r3.Facts.map str).length,.hs 82 0 [] 4 0 (r3.Duties.map ae).length,.hs 83 0 [] 1 0 (r3.Balances.map I).length,B r3.Over]) rfl (cP (OP hr3)) ?_ (dE rfl rfl rfl rfl (bw (bR rfl) dB) (OP hr3) (.inr rfl) rfl)
 refine dq [1] [] (ac c_1) rfl (aY rfl rfl) ?_
 obtain⟨r4,hr4,h⟩:=bS h
 refine dq [] [] (.hs 113 0 [] 1 0 (r4.map str).length) rfl (cP (Ie hr4)) ?_ (dE rfl rfl rfl rfl (bw (bR rfl) dB) (Ie hr4) (.inr rfl) rfl)
 refine dk 1 [10] [.agg [.isl false (c_1.Parties.map str),.isl false (c_1.Clauses.map aj),I r3.Day,.hs 81 0 [] 1 0 (r3.Facts.map str).length,.hs 82 0 [] 4 0 (r3.Duties.map ae).length,.hs 83 0 [] 1 0 (r3.Balances.map I).length,B r3.Over,.hs 113 0 [] 1 0 (r4.map str).length,.isl true [],B false]] ?_
 refine dq [81,82,83,113] [81,82,83,113] (.hp 145 0 [] 10 0 0) rfl (aaz rfl (ls (bK (co rfl) (bK (co rfl) (bK (co rfl) (bK (cN rfl rfl) (bK (cN rfl rfl) (bK (cN rfl rfl) (bK (co rfl) (bK (cN rfl rfl) (bK (co rfl) (bK (co rfl) lu))))))))))) rfl) ?_
 refine dk 1 [4] [.hp 145 0 [] 10 0 0] ?_
 refine de 177 rfl rfl ?_
 refine eJ 145 [.agg [.isl false (c_1.Parties.map str),.isl false (c_1.Clauses.map aj),I r3.Day,.usl 1 (r3.Facts.map str),.usl 4 (r3.Duties.map ae),.usl 1 (r3.Balances.map I),B r3.Over,.usl 1 (r4.map str),.usl 4 (([]).map ip),B false]] rfl rfl (aD (fD (aD (.refl _) (aD (.refl _) (aD (.refl _) (aD (.refl _) (aD (.refl _) (aD (.refl _) (aD (.refl _) (aD (.refl _) (aD (.nil _) (aD (.refl _) dT))))))))))) dT) ?_
 obtain rfl:=sI h
 exact b8 rfl ⟨_,fin (vs:=[.hp 145 0 [] 10 0 0]) rfl (fk (eO rfl (Xu (path:=[]) rfl rfl bb qx)) ey) rfl (eP (eP fu)),fm⟩
theorem Vh {G:bU}:bQ G 60 Gv:=gT 2 0 (aJ OQ (aJ A6 bv)) ca Tryz.func60 (fun a r h=>Xr a.1 a.2 r h)
def EQ:(Condition×(List aa)×Int)→List V:=cA bg (cA (eW str) (oA I))
def ER (r:Bool):V×List V:=(B r,[])
noncomputable def A5 (cV:(Condition×(List aa)×Int)→Option Bool):Ent:=ba [false,false,false] EQ ER cV
theorem sH (cV:(Condition×(List aa)×Int)→Option Bool){x}{r}(h:cV x=some r):(A5 cV).F (EQ x)=some (ER r):=aH (aN cG (aN (bu bc) (aI bC))) h
noncomputable def Gj :=A5 (aM mU)
theorem Wr {c_1:Condition}{bo:List aa}{b6:Int}{r}(h:JR c_1 bo b6=some r):Gj.F (EQ (c_1,bo,b6))=some (ER r):=sH (aM mU) h
noncomputable def ES :=aF Tryz.f147
noncomputable def Ib (cV:(Condition×(List aa)×Int)→Option Bool):Env:=b9 [(129,nP),(147,(A5 cV))]
def tL (cV:(Condition×(List aa)×Int)→Option Bool)(x:Condition×(List aa)×Int)(r:Bool):St→Prop:=QF (Ib cV) Tryz.f147 [false,false,false] (EQ x) (ER r)
theorem Xe (cV:(Condition×(List aa)×Int)→Option Bool)(c_1:Condition)(bo:List aa)(b6:Int)(r:Bool)(h:wV cV c_1 bo b6=some r):bp (Ib cV) Tryz.f147 [false,false,false] 0 (EQ (c_1,bo,b6)) (ER r):=by
 show Run _ _ (tL cV (c_1,bo,b6) r) [.code ES] _
 refine rI 67 [(0,ah c_1),(1,.isl false (bo.map str)),(2,I b6)] [] 1 ?_
 unfold wV at h
 refine ck 17 [3,8,9] [] [1] [] [.hp 1 0 [] 4 0 0,I c_1.Op,B (c_1.Op==2)] [some ⟨0,4,[ah c_1]⟩] 97 (by kernel_rfl) ?_
 refine sq h ?_ ?_<;>intro h
 ·refine cq 5 [11,13] [.isl false (bo.map str),str c_1.Name] 145 ?_
  obtain⟨r4,hr4,h⟩:=bS h
  refine oq 161 (B r4) rfl (cP (Da hr4)) ?_
  refine cq 2 [6] [B r4] 177 ?_
  obtain rfl:=sI h
  exact rP [B r4]
 ·refine cq 5 [15] [B (c_1.Op==3)] 129 ?_
  refine sq h ?_ ?_<;>intro h
  ·refine cq 8 [6] [B (decide (b6≥c_1.Day))] 209 ?_
   obtain rfl:=sI h
   exact rP [B (decide (b6≥c_1.Day))]
  ·refine cq 5 [21] [B (c_1.Op==4)] 161 ?_
   refine sq h ?_ ?_<;>intro h
   ·refine cq 4 [24] [.isl false (c_1.Parts.map ay)] 193 ?_
    obtain⟨e5,he5,h⟩:=bS h
    refine oq 209 (.iptr (ah e5) 0) rfl (au rfl rfl rfl (aV rfl rfl (bA e5) rfl he5)) ?_
    refine cq 3 [26,27,28] [ah e5,.isl false (bo.map str),I b6] 257 ?_
    obtain⟨r6,hr6,h⟩:=bS h
    refine oq 273 (B r6) rfl (cd rfl rfl (cO rfl rfl rfl (bw (bR rfl) (bw (bR rfl) (bw (bR rfl) dB))) (sH cV hr6) (.inr rfl) d9 rfl rfl rfl)) ?_
    refine cq 3 [6] [B (!r6)] 305 ?_
    obtain rfl:=sI h
    exact rP [B (!r6)]
   ·refine cq 5 [31] [B (c_1.Op==5)] 193 ?_
    refine sq h ?_ ?_<;>intro h
    ·refine cq 4 [34] [.isl false (c_1.Parts.map ay)] 225 ?_
     obtain⟨e7,he7,h⟩:=bS h
     refine oq 241 (.iptr (ah e7) 0) rfl (au rfl rfl rfl (aV rfl rfl (bA e7) rfl he7)) ?_
     refine cq 3 [36,37,38] [ah e7,.isl false (bo.map str),I b6] 289 ?_
     obtain⟨r8,hr8,h⟩:=bS h
     refine oq 305 (B r8) rfl (cd rfl rfl (cO rfl rfl rfl (bw (bR rfl) (bw (bR rfl) (bw (bR rfl) dB))) (sH cV hr8) (.inr rfl) d9 rfl rfl rfl)) ?_
     refine cq 1 [40] [B r8] 321 ?_
     obtain⟨y9,hy9,hy91,hy92⟩:=bJ h
     have j9:∀u9,y9=.inr u9→Run (Ib cV) 0 (tL cV (c_1,bo,b6) r) (.code (cR (cL (cR (cR (cR (cR (cR (cR (cR (cL (cR (cL (cR ES)))))))))))))::.blk 0::.code (cR (cR ES))::[]) (sT 67 [(6,B u9)] [] 1):=by
      intro u9 hu
      replace h:=hy92 u9 hu
      obtain rfl:=sI h
      exact rP [B u9]
     have r9:∀r',y9=.inl r'→∀st,tL cV (c_1,bo,b6) r' st→(tL cV (c_1,bo,b6) r) st:=fun r' e st hq=>by rw[hy91 r' e] at hq;exact hq
     replace h:=hy9
     refine sp 40 h rfl ?_ ?_<;>intro h
     ·refine cq 2 [42] [.isl false (c_1.Parts.map ay)] 353 ?_
      obtain⟨e10,he10,h⟩:=bS h
      refine oy 369 (.iptr (ah e10) 0) rfl (au rfl rfl rfl (aV rfl rfl (bA e10) rfl he10)) ?_
      refine cq 3 [44,45,46] [ah e10,.isl false (bo.map str),I b6] 417 ?_
      obtain⟨r11,hr11,h⟩:=bS h
      refine oy 433 (B r11) rfl (cd rfl rfl (cO rfl rfl rfl (bw (bR rfl) (bw (bR rfl) (bw (bR rfl) dB))) (sH cV hr11) (.inr rfl) d9 rfl rfl rfl)) ?_
      refine cq 3 [6] [B r11] 465 ?_
      exact rf [6] [] (j9 _ (ai h) :)
     ·refine cq 10 [6] [B false] 465 ?_
      exact rf [6] [] (j9 _ (ai h) :)
    ·refine cq 5 [49] [B (c_1.Op==6)] 225 ?_
     refine sq h ?_ ?_<;>intro h
     ·refine cq 4 [52] [.isl false (c_1.Parts.map ay)] 257 ?_
      obtain⟨e12,he12,h⟩:=bS h
      refine oq 273 (.iptr (ah e12) 0) rfl (au rfl rfl rfl (aV rfl rfl (bA e12) rfl he12)) ?_
      refine cq 3 [54,55,56] [ah e12,.isl false (bo.map str),I b6] 321 ?_
      obtain⟨r13,hr13,h⟩:=bS h
      refine oq 337 (B r13) rfl (cd rfl rfl (cO rfl rfl rfl (bw (bR rfl) (bw (bR rfl) (bw (bR rfl) dB))) (sH cV hr13) (.inr rfl) d9 rfl rfl rfl)) ?_
      refine cq 1 [58] [B r13] 353 ?_
      obtain⟨y14,hy14,hy141,hy142⟩:=bJ h
      have j14:∀u14,y14=.inr u14→Run (Ib cV) 0 (tL cV (c_1,bo,b6) r) (.code (cR (cL (cR (cR (cR (cR (cR (cR (cR (cR (cR (cL (cR (cL (cR ES)))))))))))))))::.blk 0::.code (cR (cR ES))::[]) (sT 67 [(6,B u14)] [] 1):=by
       intro u14 hu
       replace h:=hy142 u14 hu
       obtain rfl:=sI h
       exact rP [B u14]
      have r14:∀r',y14=.inl r'→∀st,tL cV (c_1,bo,b6) r' st→(tL cV (c_1,bo,b6) r) st:=fun r' e st hq=>by rw[hy141 r' e] at hq;exact hq
      replace h:=hy14
      refine sp 58 h rfl ?_ ?_<;>intro h
      ·refine cq 10 [6] [B true] 497 ?_
       exact rf [6] [] (j14 _ (ai h) :)
      ·refine cq 2 [60] [.isl false (c_1.Parts.map ay)] 385 ?_
       obtain⟨e15,he15,h⟩:=bS h
       refine oy 401 (.iptr (ah e15) 0) rfl (au rfl rfl rfl (aV rfl rfl (bA e15) rfl he15)) ?_
       refine cq 3 [62,63,64] [ah e15,.isl false (bo.map str),I b6] 449 ?_
       obtain⟨r16,hr16,h⟩:=bS h
       refine oy 465 (B r16) rfl (cd rfl rfl (cO rfl rfl rfl (bw (bR rfl) (bw (bR rfl) (bw (bR rfl) dB))) (sH cV hr16) (.inr rfl) d9 rfl rfl rfl)) ?_
       refine cq 3 [6] [B r16] 497 ?_
       exact rf [6] [] (j14 _ (ai h) :)
     ·refine aq 1 ?_
      refine cq 5 [6] [B true] 241 ?_
      obtain rfl:=sI h
      exact rP [B true]
theorem U6 {G:bU}:bQ G 147 Gj:=iB fun cV g_Ffl=>gT 3 0 (aJ qF (aJ g_Ffl bv)) ca Tryz.func147 (fun a r h=>Xe cV a.1 a.2.1 a.2.2 r h)
def BE:(machine×Clause)→List V:=cA (MN cQ) (oA aj)
def BF (r:Bool):V×List V:=(B r,[])
noncomputable def yO :=ba [false,false] BE BF fun x=>FQ x.1 x.2
theorem Ym {m_1:machine}{x_2:Clause}{r}(h:FQ m_1 x_2=some r):yO.F (BE (m_1,x_2))=some (BF r):=aH (aN (fz ju) (aI cB)) h
noncomputable def Yo :=aF Tryz.f112
noncomputable def OL :=b9 [(147,Gj)]
def Yn (x:machine×Clause)(r:Bool):St→Prop:=QF OL Tryz.f112 [false,false] (BE x) (BF r)
theorem Tm (m_1:machine)(x_2:Clause)(r:Bool)(h:FQ m_1 x_2=some r):bp OL Tryz.f112 [false,false] 0 (BE (m_1,x_2)) (BF r):=by
 show Run _ _ (Yn (m_1,x_2) r) [.code Yo] _
 refine rI 18 [(0,.iptr (cQ m_1) 0),(1,ao x_2)] [] 1 ?_
 unfold FQ at h
 refine ck 6 [3] [] [1] [] [.hp 1 0 [] 12 0 0] [some ⟨0,12,[ao x_2]⟩] 33 (by kernel_rfl) ?_
 refine ez [0,1,0,4,12,28,60,0,128,384,896,1920,4095,8191] rfl (by decide +kernel) ?_
 refine dq [1] [] (.hp 1 0 [] 12 0 6) rfl (al rfl rfl rfl) ?_
 refine dq [1] [] (ah x_2.When) rfl (aY rfl rfl) ?_
 refine dk 1 [7] [.iptr (cQ m_1) 0] ?_
 refine dq [] [] (.iptr (cQ m_1) 0) rfl (na rfl rfl) ?_
 refine dq [] [] (.iptr (cQ m_1) 2) rfl (al rfl rfl rfl) ?_
 refine dq [] [] (.iptr (cQ m_1) 3) rfl (al rfl rfl rfl) ?_
 refine dq [] [] (.isl false (m_1.f_s.Facts.map str)) rfl (aY rfl rfl) ?_
 refine dk 1 [12] [.iptr (cQ m_1) 0] ?_
 refine dq [] [] (.iptr (cQ m_1) 0) rfl (na rfl rfl) ?_
 refine dq [] [] (.iptr (cQ m_1) 2) rfl (al rfl rfl rfl) ?_
 refine dq [] [] (.iptr (cQ m_1) 2) rfl (al rfl rfl rfl) ?_
 refine dq [] [] (I m_1.f_s.Day) rfl (aY rfl rfl) ?_
 obtain⟨r3,hr3,h⟩:=bS h
 refine dq [] [] (B r3) rfl (cP (Wr hr3)) ?_ (dE rfl rfl rfl rfl (bw (bR rfl) (bw (bR rfl) (bw (bR rfl) dB))) (Wr hr3) (.inr rfl) rfl)
 refine dk 1 [4] [B r3] ?_
 refine de 257 rfl rfl ?_
 obtain rfl:=sI h
 exact rP [B r3]
theorem OM {G:bU}:bQ G 112 yO:=gT 2 0 (aJ U6 bv) ca Tryz.func112 (fun a r h=>Tm a.1 a.2 r h)
def BB:(Clause×Int×Int×aa×machine)→List V:=cA aj (cA (fun x:Int=>.iptr (I x) 0) (cA (fun x:Int=>.iptr (I x) 0) (cA (fun x:aa=>.iptr (str x) 0) (oA (fun x:machine=>.iptr ((MN cQ) x) 0)))))
def BC (r:Bool):V×List V:=(B r,[])
noncomputable def yN :=ba [false,false,false,false,false] BB BC fun x=>yM x.1 x.2.1 x.2.2.1 x.2.2.2.1 x.2.2.2.2
theorem Yl {x_1:Clause}{a_2:Int}{a_3:Int}{a_4:aa}{a_5:machine}{r}(h:yM x_1 a_2 a_3 a_4 a_5=some r):yN.F (BB (x_1,a_2,a_3,a_4,a_5))=some (BC r):=aH (aN cB (aN (fz bC) (aN (fz bC) (aN (fz bc) (aI (fz (fz ju))))))) h
noncomputable def BD :=aF Tryz.f111
noncomputable def uU :=b9 [(112,yO)]
def lx (x:Clause×Int×Int×aa×machine)(r:Bool):St→Prop:=QF uU Tryz.f111 [false,false,false,false,false] (BB x) (BC r)
theorem Tl (x_1:Clause)(a_2:Int)(a_3:Int)(a_4:aa)(a_5:machine)(r:Bool)(h:yM x_1 a_2 a_3 a_4 a_5=some r):bp uU Tryz.f111 [false,false,false,false,false] 0 (BB (x_1,a_2,a_3,a_4,a_5)) (BC r):=by
 show Run _ _ (lx (x_1,a_2,a_3,a_4,a_5) r) [.code BD] _
 refine rI 28 [(0,ao x_1),(1,.iptr (I a_2) 0),(2,.iptr (I a_3) 0),(3,.iptr (str a_4) 0),(4,.iptr (.iptr (cQ a_5) 0) 0)] [] 1 ?_
 unfold yM at h
 refine ck 12 [5,11] [] [1] [] [.hp 1 0 [] 12 0 0,B (x_1.Kind==a_2)] [some ⟨0,12,[ao x_1]⟩] 113 (by kernel_rfl) ?_
 obtain⟨y6,hy6,hy61,hy62⟩:=bJ h
 have j6:∀u6,y6=.inr u6→Run uU 0 (lx (x_1,a_2,a_3,a_4,a_5) r) (.code (cR (cR BD))::[]) (sT 28 [(6,B u6)] [] 1):=by
  intro u6 hu
  replace h:=hy62 u6 hu
  obtain rfl:=sI h
  exact rP [B u6]
 have r6:∀r',y6=.inl r'→∀st,lx (x_1,a_2,a_3,a_4,a_5) r' st→(lx (x_1,a_2,a_3,a_4,a_5) r) st:=fun r' e st hq=>by rw[hy61 r' e] at hq;exact hq
 replace h:=hy6
 refine sp 11 h rfl ?_ ?_<;>intro h
 ·refine cq 6 [17] [B (x_1.Party==a_3)] 209 ?_
  obtain⟨y7,hy7,hy71,hy72⟩:=bL h
  have j7:∀u7,y7=.inr u7→Run uU 0 (lx (x_1,a_2,a_3,a_4,a_5) r) (.code (cR (cR BD))::[]) (sT 28 [(6,B u7)] [] 1):=by
   intro u7 hu
   replace h:=hy72 u7 hu
   exact rf [6] [] (j6 _ (ai h) :)
  have r7:∀r',y7=.inl r'→∀st,lx (x_1,a_2,a_3,a_4,a_5) r' st→(lx (x_1,a_2,a_3,a_4,a_5) r) st:=fun r' e st hq=>r6 r' (hy71 r' e) st hq
  replace h:=hy7
  refine sp 17 h rfl ?_ ?_<;>intro h
  ·refine cq 6 [23] [B (x_1.Action==a_4)] 305 ?_
   obtain⟨y8,hy8,hy81,hy82⟩:=bL h
   have j8:∀u8,y8=.inr u8→Run uU 0 (lx (x_1,a_2,a_3,a_4,a_5) r) (.code (cR (cR BD))::[]) (sT 28 [(6,B u8)] [] 1):=by
    intro u8 hu
    replace h:=hy82 u8 hu
    exact rf [6] [] (j7 _ (ai h) :)
   have r8:∀r',y8=.inl r'→∀st,lx (x_1,a_2,a_3,a_4,a_5) r' st→(lx (x_1,a_2,a_3,a_4,a_5) r) st:=fun r' e st hq=>r7 r' (hy81 r' e) st hq
   replace h:=hy8
   refine sp 23 h rfl ?_ ?_<;>intro h
   ·refine cq 2 [24,25] [.iptr (cQ a_5) 0,ao x_1] 337 ?_
    obtain⟨r9,hr9,h⟩:=bS h
    refine oy 353 (B r9) rfl (cP (Ym hr9)) ?_
    refine cq 3 [6] [B r9] 385 ?_
    exact rf [6] [] (j8 _ (ai h) :)
   ·refine cq 6 [6] [B false] 385 ?_
    exact rf [6] [] (j8 _ (ai h) :)
  ·refine cq 12 [6] [B false] 385 ?_
   exact rf [6] [] (j7 _ (ai h) :)
 ·refine cq 18 [6] [B false] 385 ?_
  exact rf [6] [] (j6 _ (ai h) :)
theorem OK {G:bU}:bQ G 111 yN:=gT 5 0 (aJ OM bv) ca Tryz.func111 (fun a r h=>Tl a.1 a.2.1 a.2.2.1 a.2.2.2.1 a.2.2.2.2 r h)
def Dg:((List Clause)×(Int×Int×aa×machine))→List V:=cA (eW aj) (oA (fun x:Int×Int×aa×machine=>(.fn 111 [.iptr (I x.1) 0,.iptr (I x.2.1) 0,.iptr (str x.2.2.1) 0,.iptr ((MN cQ) x.2.2.2) 0]:V)))
def Dh (r:Int):V×List V:=(I r,[])
noncomputable def Ab :=ba [false,false] Dg Dh fun x=>F0 x.1 x.2
theorem ZM {s_1:List Clause}{f_2:Int×Int×aa×machine}{r}(h:F0 s_1 f_2=some r):Ab.F (Dg (s_1,f_2))=some (Dh r):=aH (aN (bu cB) (aI (XP bC bC bc (fz ju)))) h
noncomputable def QJ :=aF Tryz.f110
noncomputable def Jp :=b9 [(111,yN)]
def QI (x:(List Clause)×(Int×Int×aa×machine))(r:Int):St→Prop:=QF Jp Tryz.f110 [false,false] (Dg x) (Dh r)
theorem LD (s_1:List Clause)(f_2:Int×Int×aa×machine):cW Jp 0 (QI (s_1,f_2)) (cL (cL (cR (cL (cR QJ))))) 0 (sa s_1 f_2) (fun u=>(sT 19 [] [] 1)) fun x3=>(sT 19 [(0,.isl false (s_1.map aj)),(1,.fn 111 [.iptr (I f_2.1) 0,.iptr (I f_2.2.1) 0,.iptr (str f_2.2.2.1) 0,.iptr (.iptr (cQ f_2.2.2.2) 0) 0]),(7,I (len s_1)),(8,I x3)] [] 1):=eF (xJ s_1 f_2) fun {Q K} hK self ih x3 y h hr hn=>by
 unfold mh at h
 refine cq 5 [9] [B (decide (x3<(len s_1)))] 17 ?_
 refine sq h ?_ ?_<;>intro h
 ·refine aq 1 ?_
  refine cq 12 [5,11,12,13] [I x3,.fn 111 [.iptr (I f_2.1) 0,.iptr (I f_2.2.1) 0,.iptr (str f_2.2.2.1) 0,.iptr (.iptr (cQ f_2.2.2.2) 0) 0],.isl false (s_1.map aj),I x3] 97 ?_
  obtain⟨e4,he4,h⟩:=bS h
  refine oq 113 (.iptr (ao e4) 0) rfl (au rfl rfl rfl (aV rfl rfl rfl rfl he4)) ?_
  refine cq 1 [15] [ao e4] 129 ?_
  obtain⟨r5,hr5,h⟩:=bS h
  refine oq 145 (B r5) rfl (cP (Yl hr5)) ?_
  refine aq 1 ?_
  refine sq h ?_ ?_<;>intro h
  ·refine cq 5 [4] [I x3] 177 ?_
   exact b8 rfl (hr _ (ai h) _ (qp [I x3]))
  ·refine aq 1 ?_
   refine cq 5 [8] [I (az (x3+1))] 177 ?_
   refine dP ?_
   exact rf [0,1,7,8] [] (ih _ _ h hr hn :)
 ·refine aq 1 ?_
  exact rf [] [] (hn _ (ai h) :) (hk:=hK)
theorem Uh (s_1:List Clause)(f_2:Int×Int×aa×machine)(r:Int)(h:F0 s_1 f_2=some r):bp Jp Tryz.f110 [false,false] 0 (Dg (s_1,f_2)) (Dh r):=by
 show Run _ _ (QI (s_1,f_2) r) [.code QJ] _
 refine rI 19 [(0,.isl false (s_1.map aj)),(1,.fn 111 [.iptr (I f_2.1) 0,.iptr (I f_2.2.1) 0,.iptr (str f_2.2.2.1) 0,.iptr (.iptr (cQ f_2.2.2.2) 0) 0])] [] 1 ?_
 unfold F0 at h
 refine cq 8 [6] [.isl false (s_1.map aj)] 33 ?_
 refine oq 49 (I (len s_1)) rfl (bq rfl rfl rfl (bB rfl)) ?_
 refine cq 3 [8] [I (0)] 65 ?_
 obtain⟨y6,hy6,hy61,hy62⟩:=bJ h
 refine ci rfl ?_
 refine rf [0,1,7,8] [] (LD s_1 f_2 rfl 0 _ hy6 (fun r' e st hq=>by rw[hy61 r' e] at hq;exact hq) fun u6 hu=>?_)
 replace h:=hy62 u6 hu
 refine cq 4 [4] [I (-1)] 17 ?_
 obtain rfl:=sI h
 exact rP [I (-1)]
theorem QK {G:bU}:bQ G 110 Ab:=gT 2 0 (aJ OK bv) ca Tryz.func110 (fun a r h=>Uh a.1 a.2 r h)
def IK:(machine×Int×Int×aa)→List V:=cA (MN cQ) (cA I (cA I (oA str)))
def IL (r:Int):V×List V:=(I r,[])
noncomputable def Gw :=ba [false,false,false,false] IK IL fun x=>J4 x.1 x.2.1 x.2.2.1 x.2.2.2
theorem abE {m_1:machine}{cU:Int}{aE:Int}{aA:aa}{r}(h:J4 m_1 cU aE aA=some r):Gw.F (IK (m_1,cU,aE,aA))=some (IL r):=aH (aN (fz ju) (aN bC (aN bC (aI bc)))) h
noncomputable def abG :=aF Tryz.f61
noncomputable def WD :=b9 [(110,Ab)]
def abF (x:machine×Int×Int×aa)(r:Int):St→Prop:=QF WD Tryz.f61 [false,false,false,false] (IK x) (IL r)
theorem Xs (m_1:machine)(cU:Int)(aE:Int)(aA:aa)(r:Int)(h:J4 m_1 cU aE aA=some r):bp WD Tryz.f61 [false,false,false,false] 0 (IK (m_1,cU,aE,aA)) (IL r):=by
 show Run _ _ (abF (m_1,cU,aE,aA) r) [.code abG] _
 refine rI 16 [(0,.iptr (cQ m_1) 0),(1,I cU),(2,I aE),(3,str aA)] [] 1 ?_
 unfold J4 at h
 refine ck 16 [13,14] [] [1,17,33,49] [] [.isl false (m_1.f_c.Clauses.map aj),.fn 111 [.hp 17 0 [] 1 0 0,.hp 33 0 [] 1 0 0,.hp 49 0 [] 1 0 0,.hp 1 0 [] 1 0 0]] [some ⟨0,1,[.iptr (cQ m_1) 0]⟩,some ⟨0,1,[I cU]⟩,some ⟨0,1,[I aE]⟩,some ⟨0,1,[str aA]⟩] 177 (by kernel_rfl) ?_
 obtain⟨r5,hr5,h⟩:=bS h
 refine oq 193 (I r5) rfl (cd rfl rfl (cO rfl rfl rfl (bw (bR rfl) (bw (Hz (d6 (kR (path:=[]) rfl rfl bb rfl rfl) (d6 (kR (path:=[]) rfl rfl bb rfl rfl) (d6 (kR (path:=[]) rfl rfl bb rfl rfl) (d6 (kR (path:=[]) rfl rfl bb rfl rfl) lr))))) dB)) (ZM hr5) (.inl rfl) d9 rfl rfl rfl)) ?_
 refine cq 2 [8] [I r5] 209 ?_
 obtain rfl:=sI h
 exact rP [I r5]
theorem Vi {G:bU}:bQ G 61 Gw:=gT 4 0 (aJ QK bv) ca Tryz.func61 (fun a r h=>Xs a.1 a.2.1 a.2.2.1 a.2.2.2 r h)
def HY:(Contract×State×Int×aa)→List V:=cA aO (cA b7 (cA I (oA str)))
def HZ (r:Int×Bool):V×List V:=(.tup [I r.1,B r.2],[])
noncomputable def F8 :=ba [false,false,false,false] HY HZ fun x=>JJ x.1 x.2.1 x.2.2.1 x.2.2.2
theorem aa1 {c_1:Contract}{s_2:State}{aE:Int}{aA:aa}{r}(h:JJ c_1 s_2 aE aA=some r):F8.F (HY (c_1,s_2,aE,aA))=some (HZ r):=aH (aN aZ (aN cY (aN bC (aI bc)))) h
noncomputable def aa3 :=aF Tryz.f24
noncomputable def Wm :=b9 [(59,Gf),(60,Gv),(61,Gw)]
def aa2 (x:Contract×State×Int×aa)(r:Int×Bool):St→Prop:=QF Wm Tryz.f24 [false,false,false,false] (HY x) (HZ r)
theorem W3 (c_1:Contract)(s_2:State)(aE:Int)(aA:aa)(r:Int×Bool)(h:JJ c_1 s_2 aE aA=some r):bp Wm Tryz.f24 [false,false,false,false] 0 (HY (c_1,s_2,aE,aA)) (HZ r):=by
 show Run _ _ (aa2 (c_1,s_2,aE,aA) r) [.code aa3] _
 refine rI 22 [(0,ac c_1),(1,ak s_2),(2,I aE),(3,str aA)] [] 1 ?_
 unfold JJ at h
 refine ck 14 [4,5,10,11,12,13] [] [1,17] [] [.hp 1 0 [] 2 0 0,.hp 17 0 [] 5 0 0,ac c_1,ak s_2,I aE,str aA] [some ⟨0,2,[ac c_1]⟩,some ⟨0,5,[ak s_2]⟩] 129 (by kernel_rfl) ?_
 obtain⟨r5,hr5,h⟩:=bS h
 refine oq 145 (B r5) rfl (cP (aa5 hr5)) ?_
 refine cq 2 [15] [B (!r5)] 161 ?_
 refine sq h ?_ ?_<;>intro h
 ·refine cq 5 [8,9] [I (0),B false] 193 ?_
  obtain rfl:=sI h
  exact rP [I (0),B false]
 ·refine aq 1 ?_
  refine cq 4 [16,17] [ac c_1,ak s_2] 193 ?_
  obtain⟨r6,hr6,h⟩:=bS h
  refine oq 209 (.hp 193 0 [] 10 0 0) rfl (cP (abB hr6)) ?_
  refine cq 2 [19,20] [I aE,str aA] 241 ?_
  obtain⟨r7,hr7,h⟩:=bS h
  refine oq 257 (I r7) rfl (cd rfl rfl (cO rfl rfl rfl (bw (WN rfl rfl (kR (path:=[]) rfl rfl bb rfl (WI (fi rfl (fi rfl (fi rfl (fi (ug (ce fh)) (fi (ug (ce gx)) (fi (ug (ce qI)) (fi rfl (fi (ug (ce fh)) (fi (ug (ce HG)) (fi rfl rfl))))))))))))) (bw (bR rfl) (bw (bR rfl) (bw (bR rfl) dB)))) (abE hr7) (.inl rfl) d9 rfl rfl rfl)) ?_
  refine cq 3 [8,9] [I r7,B true] 289 ?_
  obtain rfl:=sI h
  exact rP [I r7,B true]
theorem UQ {G:bU}:bQ G 24 F8:=gT 4 0 (aJ U2 (aJ Vh (aJ Vi bv))) ca Tryz.func24 (fun a r h=>W3 a.1 a.2.1 a.2.2.1 a.2.2.2 r h)
def Ca:((List aa)×(List aa))→List V:=cA (eW str) (oA (eW str))
def Cb (r:Bool):V×List V:=(B r,[])
noncomputable def tu :=ba [false,false] Ca Cb fun x=>vb x.1 x.2
theorem Pu {a_1:List aa}{b_2:List aa}{r}(h:vb a_1 b_2=some r):tu.F (Ca (a_1,b_2))=some (Cb r):=aH (aN (bu bc) (aI (bu bc))) h
noncomputable def Pw :=aF Tryz.f49
noncomputable def Ja :=b9 []
def Pv (x:(List aa)×(List aa))(r:Bool):St→Prop:=QF Ja Tryz.f49 [false,false] (Ca x) (Cb r)
theorem Lp (a_1:List aa)(b_2:List aa):cW Ja 0 (Pv (a_1,b_2)) (cL (cL (cR (cL (cR (cR Pw)))))) 0 (rM a_1 b_2) (fun u=>(sT 26 [] [] 1)) fun x3=>(sT 26 [(0,.isl false (a_1.map str)),(1,.isl false (b_2.map str)),(5,I x3)] [] 1):=eF (xu a_1 b_2) fun {Q K} hK self ih x3 y h hr hn=>by
 unfold l8 at h
 refine cq 5 [11,12] [I x3,.isl false (a_1.map str)] 33 ?_
 refine oq 49 (I (len a_1)) rfl (bq rfl rfl rfl (bB rfl)) ?_
 refine cq 2 [14] [B (decide (x3<(len a_1)))] 65 ?_
 refine sq h ?_ ?_<;>intro h
 ·refine aq 1 ?_
  refine aq 3 ?_
  refine ez [0,0,3,7,0,0,48,112,255] rfl (by decide +kernel) ?_
  refine dk 2 [18,17] [I x3,.isl false (a_1.map str)] ?_
  obtain⟨e4,he4,h⟩:=bS h
  refine dq [] [] (.iptr (str e4) 0) rfl (au rfl rfl rfl (aV rfl rfl rfl rfl he4)) ?_
  refine dq [] [] (str e4) rfl (aY rfl rfl) ?_
  refine dk 2 [22,21] [I x3,.isl false (b_2.map str)] ?_
  obtain⟨e5,he5,h⟩:=bS h
  refine dq [] [] (.iptr (str e5) 0) rfl (au rfl rfl rfl (aV rfl rfl rfl rfl he5)) ?_
  refine dq [] [] (str e5) rfl (aY rfl rfl) ?_
  refine dk 1 [25] [B (!(e4==e5))] ?_
  refine de 209 rfl rfl ?_
  refine sq h ?_ ?_<;>intro h
  ·refine cq 4 [4] [B false] 225 ?_
   exact b8 rfl (hr _ (ai h) _ (qp [B false]))
  ·refine aq 1 ?_
   refine cq 6 [5] [I (az (x3+1))] 257 ?_
   refine dP ?_
   exact rf [0,1,5] [] (ih _ _ h hr hn :)
 ·refine aq 1 ?_
  exact rf [] [] (hn _ (ai h) :) (hk:=hK)
theorem TF (a_1:List aa)(b_2:List aa)(r:Bool)(h:vb a_1 b_2=some r):bp Ja Tryz.f49 [false,false] 0 (Ca (a_1,b_2)) (Cb r):=by
 show Run _ _ (Pv (a_1,b_2) r) [.code Pw] _
 refine rI 26 [(0,.isl false (a_1.map str)),(1,.isl false (b_2.map str))] [] 1 ?_
 unfold vb at h
 refine cq 8 [6] [.isl false (a_1.map str)] 33 ?_
 refine oq 49 (I (len a_1)) rfl (bq rfl rfl rfl (bB rfl)) ?_
 refine cq 1 [8] [.isl false (b_2.map str)] 65 ?_
 refine oq 81 (I (len b_2)) rfl (bq rfl rfl rfl (bB rfl)) ?_
 refine cq 2 [10] [B ((len a_1) != (len b_2))] 97 ?_
 refine sq h ?_ ?_<;>intro h
 ·refine cq 4 [4] [B false] 113 ?_
  obtain rfl:=sI h
  exact rP [B false]
 ·refine aq 1 ?_
  refine cq 6 [5] [I (0)] 113 ?_
  obtain⟨y6,hy6,hy61,hy62⟩:=bJ h
  refine ci rfl ?_
  refine rf [0,1,5] [] (Lp a_1 b_2 rfl 0 _ hy6 (fun r' e st hq=>by rw[hy61 r' e] at hq;exact hq) fun u6 hu=>?_)
  replace h:=hy62 u6 hu
  refine cq 4 [4] [B true] 17 ?_
  obtain rfl:=sI h
  exact rP [B true]
theorem GV {G:bU}:bQ G 49 tu:=gT 2 0 bv ca Tryz.func49 (fun a r h=>TF a.1 a.2 r h)
def uX:(Condition×Condition)→List V:=cA bg (oA bg)
def uY (r:Bool):V×List V:=(B r,[])
noncomputable def qB (bf:(Condition×Condition)→Option Bool):Ent:=ba [false,false] uX uY bf
theorem FS (bf:(Condition×Condition)→Option Bool){x}{r}(h:bf x=some r):(qB bf).F (uX x)=some (uY r):=aH (aN cG (aI cG)) h
def BX:((List Condition)×(List Condition))→List V:=cA (eW ay) (oA (eW ay))
def BZ (r:Bool):V×List V:=(B r,[])
noncomputable def zb (bf:(Condition×Condition)→Option Bool):Ent:=ba [false,false] BX BZ fun x=>uZ bf x.1 x.2
theorem YF (bf:(Condition×Condition)→Option Bool){a_1:List Condition}{b_2:List Condition}{r}(h:uZ bf a_1 b_2=some r):(zb bf).F (BX (a_1,b_2))=some (BZ r):=aH (aN (bu eS) (aI (bu eS))) h
noncomputable def Pc :=aF Tryz.f179
noncomputable def I7 (bf:(Condition×Condition)→Option Bool):Env:=b9 [(148,(qB bf))]
def Pb (bf:(Condition×Condition)→Option Bool)(x:(List Condition)×(List Condition))(r:Bool):St→Prop:=QF (I7 bf) Tryz.f179 [false,false] (BX x) (BZ r)
theorem Ll (bf:(Condition×Condition)→Option Bool)(a_1:List Condition)(b_2:List Condition):cW (I7 bf) 0 (Pb bf (a_1,b_2)) (cL (cL (cR (cL (cR (cR Pc)))))) 0 (pJ bf a_1 b_2) (fun u=>(sT 27 [] [] 1)) fun x3=>(sT 27 [(0,.isl false (a_1.map ay)),(1,.isl false (b_2.map ay)),(5,I x3)] [] 1):=eF (xq bf a_1 b_2) fun {Q K} hK self ih x3 y h hr hn=>by
 unfold ki at h
 refine cq 5 [11,12] [I x3,.isl false (a_1.map ay)] 33 ?_
 refine oq 49 (I (len a_1)) rfl (bq rfl rfl rfl (bB rfl)) ?_
 refine cq 2 [14] [B (decide (x3<(len a_1)))] 65 ?_
 refine sq h ?_ ?_<;>intro h
 ·refine aq 1 ?_
  refine aq 3 ?_
  refine ez [0,0,3,7,0,0,48,112,255,511] rfl (by decide +kernel) ?_
  refine dk 2 [18,17] [I x3,.isl false (a_1.map ay)] ?_
  obtain⟨e4,he4,h⟩:=bS h
  refine dq [] [] (.iptr (ah e4) 0) rfl (au rfl rfl rfl (aV rfl rfl (bA e4) rfl he4)) ?_
  refine dq [] [] (ah e4) rfl (aY rfl rfl) ?_
  refine dk 2 [22,21] [I x3,.isl false (b_2.map ay)] ?_
  obtain⟨e5,he5,h⟩:=bS h
  refine dq [] [] (.iptr (ah e5) 0) rfl (au rfl rfl rfl (aV rfl rfl (bA e5) rfl he5)) ?_
  refine dq [] [] (ah e5) rfl (aY rfl rfl) ?_
  obtain⟨r6,hr6,h⟩:=bS h
  refine dq [] [] (B r6) rfl (cd rfl rfl (cO rfl rfl rfl (bw (bR rfl) (bw (bR rfl) dB)) (FS bf hr6) (.inr rfl) d9 rfl rfl rfl)) ?_ (dE rfl rfl rfl rfl (bw (bR rfl) (bw (bR rfl) dB)) (FS bf hr6) (.inr rfl) rfl)
  refine dk 1 [26] [B (!r6)] ?_
  refine de 225 rfl rfl ?_
  refine sq h ?_ ?_<;>intro h
  ·refine cq 4 [4] [B false] 241 ?_
   exact b8 rfl (hr _ (ai h) _ (qp [B false]))
  ·refine aq 1 ?_
   refine cq 6 [5] [I (az (x3+1))] 273 ?_
   refine dP ?_
   exact rf [0,1,5] [] (ih _ _ h hr hn :)
 ·refine aq 1 ?_
  exact rf [] [] (hn _ (ai h) :) (hk:=hK)
theorem Tz (bf:(Condition×Condition)→Option Bool)(a_1:List Condition)(b_2:List Condition)(r:Bool)(h:uZ bf a_1 b_2=some r):bp (I7 bf) Tryz.f179 [false,false] 0 (BX (a_1,b_2)) (BZ r):=by
 show Run _ _ (Pb bf (a_1,b_2) r) [.code Pc] _
 refine rI 27 [(0,.isl false (a_1.map ay)),(1,.isl false (b_2.map ay))] [] 1 ?_
 unfold uZ at h
 refine cq 8 [6] [.isl false (a_1.map ay)] 33 ?_
 refine oq 49 (I (len a_1)) rfl (bq rfl rfl rfl (bB rfl)) ?_
 refine cq 1 [8] [.isl false (b_2.map ay)] 65 ?_
 refine oq 81 (I (len b_2)) rfl (bq rfl rfl rfl (bB rfl)) ?_
 refine cq 2 [10] [B ((len a_1) != (len b_2))] 97 ?_
 refine sq h ?_ ?_<;>intro h
 ·refine cq 4 [4] [B false] 113 ?_
  obtain rfl:=sI h
  exact rP [B false]
 ·refine aq 1 ?_
  refine cq 6 [5] [I (0)] 113 ?_
  obtain⟨y7,hy7,hy71,hy72⟩:=bJ h
  refine ci rfl ?_
  refine rf [0,1,5] [] (Ll bf a_1 b_2 rfl 0 _ hy7 (fun r' e st hq=>by rw[hy71 r' e] at hq;exact hq) fun u7 hu=>?_)
  replace h:=hy72 u7 hu
  refine cq 4 [4] [B true] 17 ?_
  obtain rfl:=sI h
  exact rP [B true]
theorem Pd {G:bU}(bf:(Condition×Condition)→Option Bool)(Ku:bQ G 148 (qB bf)):bQ G 179 (zb bf):=gT 2 0 (aJ Ku bv) ca Tryz.func179 (fun a r h=>Tz bf a.1 a.2 r h)
noncomputable def za :=qB (aM oE)
theorem YC {a_1:Condition}{b_2:Condition}{r}(h:yZ a_1 b_2=some r):za.F (uX (a_1,b_2))=some (uY r):=FS (aM oE) h
noncomputable def YE :=aF Tryz.f148
noncomputable def O9 (bf:(Condition×Condition)→Option Bool):Env:=b9 [(179,(zb bf))]
def YD (bf:(Condition×Condition)→Option Bool)(x:Condition×Condition)(r:Bool):St→Prop:=QF (O9 bf) Tryz.f148 [false,false] (uX x) (uY r)
theorem Ty (bf:(Condition×Condition)→Option Bool)(a_1:Condition)(b_2:Condition)(r:Bool)(h:rJ bf a_1 b_2=some r):bp (O9 bf) Tryz.f148 [false,false] 0 (uX (a_1,b_2)) (uY r):=by
 show Run _ _ (YD bf (a_1,b_2) r) [.code YE] _
 refine rI 26 [(0,ah a_1),(1,ah b_2)] [] 1 ?_
 unfold rJ at h
 refine ck 15 [2,3,9] [] [1,17] [] [.hp 1 0 [] 4 0 0,.hp 17 0 [] 4 0 0,B (a_1.Op != b_2.Op)] [some ⟨0,4,[ah a_1]⟩,some ⟨0,4,[ah b_2]⟩] 129 (by kernel_rfl) ?_
 refine sq h ?_ ?_<;>intro h
 ·refine cq 4 [4] [B false] 145 ?_
  obtain rfl:=sI h
  exact rP [B false]
 ·refine aq 1 ?_
  refine cq 9 [14] [B (!(a_1.Name==b_2.Name))] 209 ?_
  refine sq h ?_ ?_<;>intro h
  ·refine cq 4 [4] [B false] 225 ?_
   obtain rfl:=sI h
   exact rP [B false]
  ·refine aq 1 ?_
   refine cq 9 [19] [B (a_1.Day != b_2.Day)] 289 ?_
   refine sq h ?_ ?_<;>intro h
   ·refine cq 4 [4] [B false] 305 ?_
    obtain rfl:=sI h
    exact rP [B false]
   ·refine aq 1 ?_
    refine cq 7 [21,23] [.isl false (a_1.Parts.map ay),.isl false (b_2.Parts.map ay)] 353 ?_
    obtain⟨r3,hr3,h⟩:=bS h
    refine oq 369 (B r3) rfl (cd rfl rfl (cO rfl rfl rfl (bw (bR rfl) (bw (bR rfl) dB)) (YF bf hr3) (.inr rfl) d9 rfl rfl rfl)) ?_
    refine cq 2 [25] [B (!r3)] 385 ?_
    refine sq h ?_ ?_<;>intro h
    ·refine cq 4 [4] [B false] 401 ?_
     obtain rfl:=sI h
     exact rP [B false]
    ·refine aq 1 ?_
     refine cq 4 [4] [B true] 401 ?_
     obtain rfl:=sI h
     exact rP [B true]
theorem Pa {G:bU}:bQ G 148 za:=iB fun bf Ku=>gT 2 0 (aJ (Pd bf Ku) bv) ca Tryz.func148 (fun a r h=>Ty bf a.1 a.2 r h)
def BT:(Clause×Clause)→List V:=cA aj (oA aj)
def BU (r:Bool):V×List V:=(B r,[])
noncomputable def yW :=ba [false,false] BT BU fun x=>uW x.1 x.2
theorem O4 {a_1:Clause}{b_2:Clause}{r}(h:uW a_1 b_2=some r):yW.F (BT (a_1,b_2))=some (BU r):=aH (aN cB (aI cB)) h
noncomputable def YA :=aF Tryz.f104
noncomputable def O3 :=b9 [(148,za)]
def Yz (x:Clause×Clause)(r:Bool):St→Prop:=QF O3 Tryz.f104 [false,false] (BT x) (BU r)
theorem Tv (a_1:Clause)(b_2:Clause)(r:Bool)(h:uW a_1 b_2=some r):bp O3 Tryz.f104 [false,false] 0 (BT (a_1,b_2)) (BU r):=by
 show Run _ _ (Yz (a_1,b_2) r) [.code YA] _
 refine rI 51 [(0,ao a_1),(1,ao b_2)] [] 1 ?_
 unfold uW at h
 refine ck 15 [2,3,9] [] [1,17] [] [.hp 1 0 [] 12 0 0,.hp 17 0 [] 12 0 0,B (!(a_1.Id==b_2.Id))] [some ⟨0,12,[ao a_1]⟩,some ⟨0,12,[ao b_2]⟩] 129 (by kernel_rfl) ?_
 refine sq h ?_ ?_<;>intro h
 ·refine cq 4 [4] [B false] 145 ?_
  obtain rfl:=sI h
  exact rP [B false]
 ·refine aq 1 ?_
  refine cq 9 [14] [B (a_1.Kind != b_2.Kind)] 209 ?_
  refine sq h ?_ ?_<;>intro h
  ·refine cq 4 [4] [B false] 225 ?_
   obtain rfl:=sI h
   exact rP [B false]
  ·refine aq 1 ?_
   refine cq 9 [19] [B (a_1.Party != b_2.Party)] 289 ?_
   refine sq h ?_ ?_<;>intro h
   ·refine cq 4 [4] [B false] 305 ?_
    obtain rfl:=sI h
    exact rP [B false]
   ·refine aq 1 ?_
    refine cq 9 [24] [B (!(a_1.Action==b_2.Action))] 369 ?_
    refine sq h ?_ ?_<;>intro h
    ·refine cq 4 [4] [B false] 385 ?_
     obtain rfl:=sI h
     exact rP [B false]
    ·refine aq 1 ?_
     refine cq 9 [29] [B (a_1.Other != b_2.Other)] 449 ?_
     refine sq h ?_ ?_<;>intro h
     ·refine cq 4 [4] [B false] 465 ?_
      obtain rfl:=sI h
      exact rP [B false]
     ·refine aq 1 ?_
      refine cq 9 [34] [B (a_1.Amount != b_2.Amount)] 529 ?_
      refine sq h ?_ ?_<;>intro h
      ·refine cq 4 [4] [B false] 545 ?_
       obtain rfl:=sI h
       exact rP [B false]
      ·refine aq 1 ?_
       refine cq 7 [36,38] [ah a_1.When,ah b_2.When] 593 ?_
       obtain⟨r3,hr3,h⟩:=bS h
       refine oq 609 (B r3) rfl (cP (YC hr3)) ?_
       refine cq 2 [40] [B (!r3)] 625 ?_
       refine sq h ?_ ?_<;>intro h
       ·refine cq 4 [4] [B false] 641 ?_
        obtain rfl:=sI h
        exact rP [B false]
       ·refine aq 1 ?_
        refine cq 9 [45] [B (a_1.Within != b_2.Within)] 705 ?_
        refine sq h ?_ ?_<;>intro h
        ·refine cq 4 [4] [B false] 721 ?_
         obtain rfl:=sI h
         exact rP [B false]
        ·refine aq 1 ?_
         refine cq 9 [50] [B (!(a_1.Repair==b_2.Repair))] 785 ?_
         refine sq h ?_ ?_<;>intro h
         ·refine cq 4 [4] [B false] 801 ?_
          obtain rfl:=sI h
          exact rP [B false]
         ·refine aq 1 ?_
          refine cq 4 [4] [B true] 801 ?_
          obtain rfl:=sI h
          exact rP [B true]
theorem O5 {G:bU}:bQ G 104 yW:=gT 2 0 (aJ Pa bv) ca Tryz.func104 (fun a r h=>Tv a.1 a.2 r h)
def BV:((List Clause)×(List Clause))→List V:=cA (eW aj) (oA (eW aj))
def BW (r:Bool):V×List V:=(B r,[])
noncomputable def yY :=ba [false,false] BV BW fun x=>yX x.1 x.2
theorem YB {a_1:List Clause}{b_2:List Clause}{r}(h:yX a_1 b_2=some r):yY.F (BV (a_1,b_2))=some (BW r):=aH (aN (bu cB) (aI (bu cB))) h
noncomputable def O7 :=aF Tryz.f50
noncomputable def I6 :=b9 [(104,yW)]
def O6 (x:(List Clause)×(List Clause))(r:Bool):St→Prop:=QF I6 Tryz.f50 [false,false] (BV x) (BW r)
theorem Lj (a_1:List Clause)(b_2:List Clause):cW I6 0 (O6 (a_1,b_2)) (cL (cL (cR (cL (cR (cR O7)))))) 0 (rH a_1 b_2) (fun u=>(sT 27 [] [] 1)) fun x3=>(sT 27 [(0,.isl false (a_1.map aj)),(1,.isl false (b_2.map aj)),(5,I x3)] [] 1):=eF (xp a_1 b_2) fun {Q K} hK self ih x3 y h hr hn=>by
 unfold l5 at h
 refine cq 5 [11,12] [I x3,.isl false (a_1.map aj)] 33 ?_
 refine oq 49 (I (len a_1)) rfl (bq rfl rfl rfl (bB rfl)) ?_
 refine cq 2 [14] [B (decide (x3<(len a_1)))] 65 ?_
 refine sq h ?_ ?_<;>intro h
 ·refine aq 1 ?_
  refine aq 3 ?_
  refine ez [0,0,3,7,0,0,48,112,255,511] rfl (by decide +kernel) ?_
  refine dk 2 [18,17] [I x3,.isl false (a_1.map aj)] ?_
  obtain⟨e4,he4,h⟩:=bS h
  refine dq [] [] (.iptr (ao e4) 0) rfl (au rfl rfl rfl (aV rfl rfl rfl rfl he4)) ?_
  refine dq [] [] (ao e4) rfl (aY rfl rfl) ?_
  refine dk 2 [22,21] [I x3,.isl false (b_2.map aj)] ?_
  obtain⟨e5,he5,h⟩:=bS h
  refine dq [] [] (.iptr (ao e5) 0) rfl (au rfl rfl rfl (aV rfl rfl rfl rfl he5)) ?_
  refine dq [] [] (ao e5) rfl (aY rfl rfl) ?_
  obtain⟨r6,hr6,h⟩:=bS h
  refine dq [] [] (B r6) rfl (cP (O4 hr6)) ?_ (dE rfl rfl rfl rfl (bw (bR rfl) (bw (bR rfl) dB)) (O4 hr6) (.inr rfl) rfl)
  refine dk 1 [26] [B (!r6)] ?_
  refine de 225 rfl rfl ?_
  refine sq h ?_ ?_<;>intro h
  ·refine cq 4 [4] [B false] 241 ?_
   exact b8 rfl (hr _ (ai h) _ (qp [B false]))
  ·refine aq 1 ?_
   refine cq 6 [5] [I (az (x3+1))] 273 ?_
   refine dP ?_
   exact rf [0,1,5] [] (ih _ _ h hr hn :)
 ·refine aq 1 ?_
  exact rf [] [] (hn _ (ai h) :) (hk:=hK)
theorem Tw (a_1:List Clause)(b_2:List Clause)(r:Bool)(h:yX a_1 b_2=some r):bp I6 Tryz.f50 [false,false] 0 (BV (a_1,b_2)) (BW r):=by
 show Run _ _ (O6 (a_1,b_2) r) [.code O7] _
 refine rI 27 [(0,.isl false (a_1.map aj)),(1,.isl false (b_2.map aj))] [] 1 ?_
 unfold yX at h
 refine cq 8 [6] [.isl false (a_1.map aj)] 33 ?_
 refine oq 49 (I (len a_1)) rfl (bq rfl rfl rfl (bB rfl)) ?_
 refine cq 1 [8] [.isl false (b_2.map aj)] 65 ?_
 refine oq 81 (I (len b_2)) rfl (bq rfl rfl rfl (bB rfl)) ?_
 refine cq 2 [10] [B ((len a_1) != (len b_2))] 97 ?_
 refine sq h ?_ ?_<;>intro h
 ·refine cq 4 [4] [B false] 113 ?_
  obtain rfl:=sI h
  exact rP [B false]
 ·refine aq 1 ?_
  refine cq 6 [5] [I (0)] 113 ?_
  obtain⟨y7,hy7,hy71,hy72⟩:=bJ h
  refine ci rfl ?_
  refine rf [0,1,5] [] (Lj a_1 b_2 rfl 0 _ hy7 (fun r' e st hq=>by rw[hy71 r' e] at hq;exact hq) fun u7 hu=>?_)
  replace h:=hy72 u7 hu
  refine cq 4 [4] [B true] 17 ?_
  obtain rfl:=sI h
  exact rP [B true]
theorem O8 {G:bU}:bQ G 50 yY:=gT 2 0 (aJ O5 bv) ca Tryz.func50 (fun a r h=>Tw a.1 a.2 r h)
def B0:(Contract×Contract)→List V:=cA aO (oA aO)
def B1 (r:Bool):V×List V:=(B r,[])
noncomputable def zd :=ba [false,false] B0 B1 fun x=>zc x.1 x.2
theorem Pf {a_1:Contract}{b_2:Contract}{r}(h:zc a_1 b_2=some r):zd.F (B0 (a_1,b_2))=some (B1 r):=aH (aN aZ (aI aZ)) h
noncomputable def YH :=aF Tryz.f17
noncomputable def Pe :=b9 [(49,tu),(50,yY)]
def YG (x:Contract×Contract)(r:Bool):St→Prop:=QF Pe Tryz.f17 [false,false] (B0 x) (B1 r)
theorem TA (a_1:Contract)(b_2:Contract)(r:Bool)(h:zc a_1 b_2=some r):bp Pe Tryz.f17 [false,false] 0 (B0 (a_1,b_2)) (B1 r):=by
 show Run _ _ (YG (a_1,b_2) r) [.code YH] _
 refine rI 17 [(0,ac a_1),(1,ac b_2)] [] 1 ?_
 unfold zc at h
 refine ck 13 [2,3,6,8] [] [1,17] [] [.hp 1 0 [] 2 0 0,.hp 17 0 [] 2 0 0,.isl false (a_1.Parties.map str),.isl false (b_2.Parties.map str)] [some ⟨0,2,[ac a_1]⟩,some ⟨0,2,[ac b_2]⟩] 113 (by kernel_rfl) ?_
 obtain⟨r3,hr3,h⟩:=bS h
 refine oq 129 (B r3) rfl (cP (Pu hr3)) ?_
 refine cq 2 [10] [B (!r3)] 145 ?_
 refine sq h ?_ ?_<;>intro h
 ·refine cq 4 [4] [B false] 161 ?_
  obtain rfl:=sI h
  exact rP [B false]
 ·refine aq 1 ?_
  refine cq 7 [12,14] [.isl false (a_1.Clauses.map aj),.isl false (b_2.Clauses.map aj)] 209 ?_
  obtain⟨r4,hr4,h⟩:=bS h
  refine oq 225 (B r4) rfl (cP (YB hr4)) ?_
  refine cq 2 [16] [B (!r4)] 241 ?_
  refine sq h ?_ ?_<;>intro h
  ·refine cq 4 [4] [B false] 257 ?_
   obtain rfl:=sI h
   exact rP [B false]
  ·refine aq 1 ?_
   refine cq 4 [4] [B true] 257 ?_
   obtain rfl:=sI h
   exact rP [B true]
theorem Pg {G:bU}:bQ G 17 zd:=gT 2 0 (aJ GV (aJ O8 bv)) ca Tryz.func17 (fun a r h=>TA a.1 a.2 r h)
def B2:(Duty×Duty)→List V:=cA ae (oA ae)
def B3 (r:Bool):V×List V:=(B r,[])
noncomputable def ze :=ba [false,false] B2 B3 fun x=>va x.1 x.2
theorem Pi {a_1:Duty}{b_2:Duty}{r}(h:va a_1 b_2=some r):ze.F (B2 (a_1,b_2))=some (B3 r):=aH (aN dH (aI dH)) h
noncomputable def YJ :=aF Tryz.f113
noncomputable def Ph :=b9 []
def YI (x:Duty×Duty)(r:Bool):St→Prop:=QF Ph Tryz.f113 [false,false] (B2 x) (B3 r)
theorem TB (a_1:Duty)(b_2:Duty)(r:Bool)(h:va a_1 b_2=some r):bp Ph Tryz.f113 [false,false] 0 (B2 (a_1,b_2)) (B3 r):=by
 show Run _ _ (YI (a_1,b_2) r) [.code YJ] _
 refine rI 25 [(0,ae a_1),(1,ae b_2)] [] 1 ?_
 unfold va at h
 refine ck 15 [2,3,9] [] [1,17] [] [.hp 1 0 [] 4 0 0,.hp 17 0 [] 4 0 0,B (a_1.Clause != b_2.Clause)] [some ⟨0,4,[ae a_1]⟩,some ⟨0,4,[ae b_2]⟩] 129 (by kernel_rfl) ?_
 refine sq h ?_ ?_<;>intro h
 ·refine cq 4 [4] [B false] 145 ?_
  obtain rfl:=sI h
  exact rP [B false]
 ·refine aq 1 ?_
  refine cq 9 [14] [B (a_1.Since != b_2.Since)] 209 ?_
  refine sq h ?_ ?_<;>intro h
  ·refine cq 4 [4] [B false] 225 ?_
   obtain rfl:=sI h
   exact rP [B false]
  ·refine aq 1 ?_
   refine cq 9 [19] [B (a_1.Due != b_2.Due)] 289 ?_
   refine sq h ?_ ?_<;>intro h
   ·refine cq 4 [4] [B false] 305 ?_
    obtain rfl:=sI h
    exact rP [B false]
   ·refine aq 1 ?_
    refine cq 9 [24] [B (a_1.Status != b_2.Status)] 369 ?_
    refine sq h ?_ ?_<;>intro h
    ·refine cq 4 [4] [B false] 385 ?_
     obtain rfl:=sI h
     exact rP [B false]
    ·refine aq 1 ?_
     refine cq 4 [4] [B true] 385 ?_
     obtain rfl:=sI h
     exact rP [B true]
theorem Pj {G:bU}:bQ G 113 ze:=gT 2 0 bv ca Tryz.func113 (fun a r h=>TB a.1 a.2 r h)
def B4:((List Duty)×(List Duty))→List V:=cA (eW ae) (oA (eW ae))
def B5 (r:Bool):V×List V:=(B r,[])
noncomputable def zg :=ba [false,false] B4 B5 fun x=>zf x.1 x.2
theorem YK {a_1:List Duty}{b_2:List Duty}{r}(h:zf a_1 b_2=some r):zg.F (B4 (a_1,b_2))=some (B5 r):=aH (aN (bu dH) (aI (bu dH))) h
noncomputable def Pm :=aF Tryz.f62
noncomputable def I8 :=b9 [(113,ze)]
def Pk (x:(List Duty)×(List Duty))(r:Bool):St→Prop:=QF I8 Tryz.f62 [false,false] (B4 x) (B5 r)
theorem Lm (a_1:List Duty)(b_2:List Duty):cW I8 0 (Pk (a_1,b_2)) (cL (cL (cR (cL (cR (cR Pm)))))) 0 (rK a_1 b_2) (fun u=>(sT 27 [] [] 1)) fun x3=>(sT 27 [(0,.isl false (a_1.map ae)),(1,.isl false (b_2.map ae)),(5,I x3)] [] 1):=eF (xr a_1 b_2) fun {Q K} hK self ih x3 y h hr hn=>by
 unfold l6 at h
 refine cq 5 [11,12] [I x3,.isl false (a_1.map ae)] 33 ?_
 refine oq 49 (I (len a_1)) rfl (bq rfl rfl rfl (bB rfl)) ?_
 refine cq 2 [14] [B (decide (x3<(len a_1)))] 65 ?_
 refine sq h ?_ ?_<;>intro h
 ·refine aq 1 ?_
  refine aq 3 ?_
  refine ez [0,0,3,7,0,0,48,112,255,511] rfl (by decide +kernel) ?_
  refine dk 2 [18,17] [I x3,.isl false (a_1.map ae)] ?_
  obtain⟨e4,he4,h⟩:=bS h
  refine dq [] [] (.iptr (ae e4) 0) rfl (au rfl rfl rfl (aV rfl rfl rfl rfl he4)) ?_
  refine dq [] [] (ae e4) rfl (aY rfl rfl) ?_
  refine dk 2 [22,21] [I x3,.isl false (b_2.map ae)] ?_
  obtain⟨e5,he5,h⟩:=bS h
  refine dq [] [] (.iptr (ae e5) 0) rfl (au rfl rfl rfl (aV rfl rfl rfl rfl he5)) ?_
  refine dq [] [] (ae e5) rfl (aY rfl rfl) ?_
  obtain⟨r6,hr6,h⟩:=bS h
  refine dq [] [] (B r6) rfl (cP (Pi hr6)) ?_ (dE rfl rfl rfl rfl (bw (bR rfl) (bw (bR rfl) dB)) (Pi hr6) (.inr rfl) rfl)
  refine dk 1 [26] [B (!r6)] ?_
  refine de 225 rfl rfl ?_
  refine sq h ?_ ?_<;>intro h
  ·refine cq 4 [4] [B false] 241 ?_
   exact b8 rfl (hr _ (ai h) _ (qp [B false]))
  ·refine aq 1 ?_
   refine cq 6 [5] [I (az (x3+1))] 273 ?_
   refine dP ?_
   exact rf [0,1,5] [] (ih _ _ h hr hn :)
 ·refine aq 1 ?_
  exact rf [] [] (hn _ (ai h) :) (hk:=hK)
theorem TC (a_1:List Duty)(b_2:List Duty)(r:Bool)(h:zf a_1 b_2=some r):bp I8 Tryz.f62 [false,false] 0 (B4 (a_1,b_2)) (B5 r):=by
 show Run _ _ (Pk (a_1,b_2) r) [.code Pm] _
 refine rI 27 [(0,.isl false (a_1.map ae)),(1,.isl false (b_2.map ae))] [] 1 ?_
 unfold zf at h
 refine cq 8 [6] [.isl false (a_1.map ae)] 33 ?_
 refine oq 49 (I (len a_1)) rfl (bq rfl rfl rfl (bB rfl)) ?_
 refine cq 1 [8] [.isl false (b_2.map ae)] 65 ?_
 refine oq 81 (I (len b_2)) rfl (bq rfl rfl rfl (bB rfl)) ?_
 refine cq 2 [10] [B ((len a_1) != (len b_2))] 97 ?_
 refine sq h ?_ ?_<;>intro h
 ·refine cq 4 [4] [B false] 113 ?_
  obtain rfl:=sI h
  exact rP [B false]
 ·refine aq 1 ?_
  refine cq 6 [5] [I (0)] 113 ?_
  obtain⟨y7,hy7,hy71,hy72⟩:=bJ h
  refine ci rfl ?_
  refine rf [0,1,5] [] (Lm a_1 b_2 rfl 0 _ hy7 (fun r' e st hq=>by rw[hy71 r' e] at hq;exact hq) fun u7 hu=>?_)
  replace h:=hy72 u7 hu
  refine cq 4 [4] [B true] 17 ?_
  obtain rfl:=sI h
  exact rP [B true]
theorem Pn {G:bU}:bQ G 62 zg:=gT 2 0 (aJ Pj bv) ca Tryz.func62 (fun a r h=>TC a.1 a.2 r h)
def B6:((List Int)×(List Int))→List V:=cA (eW I) (oA (eW I))
def B7 (r:Bool):V×List V:=(B r,[])
noncomputable def zi :=ba [false,false] B6 B7 fun x=>zh x.1 x.2
theorem YL {a_1:List Int}{b_2:List Int}{r}(h:zh a_1 b_2=some r):zi.F (B6 (a_1,b_2))=some (B7 r):=aH (aN (bu bC) (aI (bu bC))) h
noncomputable def Pp :=aF Tryz.f16
noncomputable def I9 :=b9 []
def Po (x:(List Int)×(List Int))(r:Bool):St→Prop:=QF I9 Tryz.f16 [false,false] (B6 x) (B7 r)
theorem Lo (a_1:List Int)(b_2:List Int):cW I9 0 (Po (a_1,b_2)) (cL (cL (cR (cL (cR (cR Pp)))))) 0 (rL a_1 b_2) (fun u=>(sT 26 [] [] 1)) fun x3=>(sT 26 [(0,.isl false (a_1.map I)),(1,.isl false (b_2.map I)),(5,I x3)] [] 1):=eF (xt a_1 b_2) fun {Q K} hK self ih x3 y h hr hn=>by
 unfold l7 at h
 refine cq 5 [11,12] [I x3,.isl false (a_1.map I)] 33 ?_
 refine oq 49 (I (len a_1)) rfl (bq rfl rfl rfl (bB rfl)) ?_
 refine cq 2 [14] [B (decide (x3<(len a_1)))] 65 ?_
 refine sq h ?_ ?_<;>intro h
 ·refine aq 1 ?_
  refine aq 3 ?_
  refine ez [0,0,3,7,0,0,48,112,255] rfl (by decide +kernel) ?_
  refine dk 2 [18,17] [I x3,.isl false (a_1.map I)] ?_
  obtain⟨e4,he4,h⟩:=bS h
  refine dq [] [] (.iptr (I e4) 0) rfl (au rfl rfl rfl (aV rfl rfl rfl rfl he4)) ?_
  refine dq [] [] (I e4) rfl (aY rfl rfl) ?_
  refine dk 2 [22,21] [I x3,.isl false (b_2.map I)] ?_
  obtain⟨e5,he5,h⟩:=bS h
  refine dq [] [] (.iptr (I e5) 0) rfl (au rfl rfl rfl (aV rfl rfl rfl rfl he5)) ?_
  refine dq [] [] (I e5) rfl (aY rfl rfl) ?_
  refine dk 1 [25] [B (e4 != e5)] ?_
  refine de 209 rfl rfl ?_
  refine sq h ?_ ?_<;>intro h
  ·refine cq 4 [4] [B false] 225 ?_
   exact b8 rfl (hr _ (ai h) _ (qp [B false]))
  ·refine aq 1 ?_
   refine cq 6 [5] [I (az (x3+1))] 257 ?_
   refine dP ?_
   exact rf [0,1,5] [] (ih _ _ h hr hn :)
 ·refine aq 1 ?_
  exact rf [] [] (hn _ (ai h) :) (hk:=hK)
theorem TD (a_1:List Int)(b_2:List Int)(r:Bool)(h:zh a_1 b_2=some r):bp I9 Tryz.f16 [false,false] 0 (B6 (a_1,b_2)) (B7 r):=by
 show Run _ _ (Po (a_1,b_2) r) [.code Pp] _
 refine rI 26 [(0,.isl false (a_1.map I)),(1,.isl false (b_2.map I))] [] 1 ?_
 unfold zh at h
 refine cq 8 [6] [.isl false (a_1.map I)] 33 ?_
 refine oq 49 (I (len a_1)) rfl (bq rfl rfl rfl (bB rfl)) ?_
 refine cq 1 [8] [.isl false (b_2.map I)] 65 ?_
 refine oq 81 (I (len b_2)) rfl (bq rfl rfl rfl (bB rfl)) ?_
 refine cq 2 [10] [B ((len a_1) != (len b_2))] 97 ?_
 refine sq h ?_ ?_<;>intro h
 ·refine cq 4 [4] [B false] 113 ?_
  obtain rfl:=sI h
  exact rP [B false]
 ·refine aq 1 ?_
  refine cq 6 [5] [I (0)] 113 ?_
  obtain⟨y6,hy6,hy61,hy62⟩:=bJ h
  refine ci rfl ?_
  refine rf [0,1,5] [] (Lo a_1 b_2 rfl 0 _ hy6 (fun r' e st hq=>by rw[hy61 r' e] at hq;exact hq) fun u6 hu=>?_)
  replace h:=hy62 u6 hu
  refine cq 4 [4] [B true] 17 ?_
  obtain rfl:=sI h
  exact rP [B true]
theorem Pq {G:bU}:bQ G 16 zi:=gT 2 0 bv ca Tryz.func16 (fun a r h=>TD a.1 a.2 r h)
def B8:(State×State)→List V:=cA b7 (oA b7)
def B9 (r:Bool):V×List V:=(B r,[])
noncomputable def zk :=ba [false,false] B8 B9 fun x=>zj x.1 x.2
theorem Ps {a_1:State}{b_2:State}{r}(h:zj a_1 b_2=some r):zk.F (B8 (a_1,b_2))=some (B9 r):=aH (aN cY (aI cY)) h
noncomputable def YN :=aF Tryz.f25
noncomputable def Pr :=b9 [(49,tu),(62,zg),(16,zi)]
def YM (x:State×State)(r:Bool):St→Prop:=QF Pr Tryz.f25 [false,false] (B8 x) (B9 r)
theorem TE (a_1:State)(b_2:State)(r:Bool)(h:zj a_1 b_2=some r):bp Pr Tryz.f25 [false,false] 0 (B8 (a_1,b_2)) (B9 r):=by
 show Run _ _ (YM (a_1,b_2) r) [.code YN] _
 refine rI 33 [(0,ak a_1),(1,ak b_2)] [] 1 ?_
 unfold zj at h
 refine ck 15 [2,3,9] [] [1,17] [] [.hp 1 0 [] 5 0 0,.hp 17 0 [] 5 0 0,B (a_1.Day != b_2.Day)] [some ⟨0,5,[ak a_1]⟩,some ⟨0,5,[ak b_2]⟩] 129 (by kernel_rfl) ?_
 refine sq h ?_ ?_<;>intro h
 ·refine cq 4 [4] [B false] 145 ?_
  obtain rfl:=sI h
  exact rP [B false]
 ·refine aq 1 ?_
  refine cq 7 [11,13] [.isl false (a_1.Facts.map str),.isl false (b_2.Facts.map str)] 193 ?_
  obtain⟨r3,hr3,h⟩:=bS h
  refine oq 209 (B r3) rfl (cP (Pu hr3)) ?_
  refine cq 2 [15] [B (!r3)] 225 ?_
  refine sq h ?_ ?_<;>intro h
  ·refine cq 4 [4] [B false] 241 ?_
   obtain rfl:=sI h
   exact rP [B false]
  ·refine aq 1 ?_
   refine cq 7 [17,19] [.isl false (a_1.Duties.map ae),.isl false (b_2.Duties.map ae)] 289 ?_
   obtain⟨r4,hr4,h⟩:=bS h
   refine oq 305 (B r4) rfl (cP (YK hr4)) ?_
   refine cq 2 [21] [B (!r4)] 321 ?_
   refine sq h ?_ ?_<;>intro h
   ·refine cq 4 [4] [B false] 337 ?_
    obtain rfl:=sI h
    exact rP [B false]
   ·refine aq 1 ?_
    refine cq 7 [23,25] [.isl false (a_1.Balances.map I),.isl false (b_2.Balances.map I)] 385 ?_
    obtain⟨r5,hr5,h⟩:=bS h
    refine oq 401 (B r5) rfl (cP (YL hr5)) ?_
    refine cq 2 [27] [B (!r5)] 417 ?_
    refine sq h ?_ ?_<;>intro h
    ·refine cq 4 [4] [B false] 433 ?_
     obtain rfl:=sI h
     exact rP [B false]
    ·refine aq 1 ?_
     refine cq 9 [32] [B (!(a_1.Over==b_2.Over))] 497 ?_
     refine sq h ?_ ?_<;>intro h
     ·refine cq 4 [4] [B false] 513 ?_
      obtain rfl:=sI h
      exact rP [B false]
     ·refine aq 1 ?_
      refine cq 4 [4] [B true] 513 ?_
      obtain rfl:=sI h
      exact rP [B true]
theorem Pt {G:bU}:bQ G 25 zk:=gT 2 0 (aJ GV (aJ Pn (aJ Pq bv))) ca Tryz.func25 (fun a r h=>TE a.1 a.2 r h)
def gn:(Contract×State×Int×aa)→List V:=cA aO (cA b7 (cA I (oA str)))
def gp (r:Bool):V×List V:=(B r,[])
noncomputable def hI :=ba [false,false,false,false] gn gp fun x=>fb x.1 x.2.1 x.2.2.1 x.2.2.2
theorem rn {js:Contract}{jt:State}{gc:Int}{eR:aa}{r}(h:fb js jt gc eR=some r):hI.F (gn (js,jt,gc,eR))=some (gp r):=aH (aN aZ (aN cY (aN bC (aI bc)))) h
noncomputable def gq :=aF Tryz.f4
noncomputable def iC :=b9 [(12,zr),(21,zz),(14,zG),(23,zM),(22,Aj),(24,F8),(17,zd),(25,zk)]
def lB (x:Contract×State×Int×aa)(r:Bool):St→Prop:=QF iC Tryz.f4 [false,false,false,false] (gn x) (gp r)
theorem qn (js:Contract)(jt:State)(gc:Int)(eR:aa)(r:Bool)(h:fb js jt gc eR=some r):bp iC Tryz.f4 [false,false,false,false] 0 (gn (js,jt,gc,eR)) (gp r):=by
 show Run _ _ (lB (js,jt,gc,eR) r) [.code gq] _
 refine rI 69 [(0,aO js),(1,b7 jt),(2,I gc),(3,str eR)] [] 1 ?_
 unfold fb at h
 refine ck 13 [4,5,18] [] [1,17] [] [.hp 1 0 [] 2 0 0,.hp 17 0 [] 5 0 0,B (decide ((len eR)>1048576))] [some ⟨0,2,[aO js]⟩,some ⟨0,5,[b7 jt]⟩] 97 (by kernel_rfl) ?_
 refine sq h ?_ ?_<;>intro h
 ·refine cq 4 [8] [B true] 113 ?_
  obtain rfl:=sI h
  exact rP [B true]
 ·refine aq 1 ?_
  refine cq 8 [19,20] [aO js,I (1048576)] 145 ?_
  obtain⟨r5,hr5,h⟩:=bS h
  refine oq 161 (I r5) rfl (cP (YW hr5)) ?_
  refine cq 8 [9,23] [I r5,B (decide (r5<0))] 209 ?_
  refine sq h ?_ ?_<;>intro h
  ·refine cq 4 [8] [B true] 225 ?_
   obtain rfl:=sI h
   exact rP [B true]
  ·refine aq 1 ?_
   refine cq 4 [24,25] [b7 jt,I r5] 241 ?_
   obtain⟨r6,hr6,h⟩:=bS h
   refine oq 257 (I r6) rfl (cP (Y5 hr6)) ?_
   refine ck 8 [28] [9] [] [] [B (decide (r6<0))] [] 305 (by kernel_rfl) ?_
   refine sq h ?_ ?_<;>intro h
   ·refine cq 4 [8] [B true] 321 ?_
    obtain rfl:=sI h
    exact rP [B true]
   ·refine aq 1 ?_
    refine aq 1 ?_
    refine ez [0,1,0,7,0,0,63,127,255,255,511,2047] rfl (by decide +kernel) ?_
    refine dq [1] [] (aO js) rfl (aY rfl rfl) ?_
    obtain⟨r7,hr7,h⟩:=bS h
    refine dq [] [] (.agg [.hs 321 0 [] 1 0 (r7.Parties.map str).length,.hs 322 0 [] 12 0 (r7.Clauses.map aQ).length]) rfl (cP (vm hr7)) ?_ (dE rfl rfl rfl rfl (bw (bR rfl) dB) (vm hr7) (.inr rfl) rfl)
    refine dq [17] [] (b7 jt) rfl (aY rfl rfl) ?_
    obtain⟨r8,hr8,h⟩:=bS h
    refine dq [] [] (.agg [I r8.Day,.hs 353 0 [] 1 0 (r8.Facts.map str).length,.hs 354 0 [] 4 0 (r8.Duties.map ae).length,.hs 355 0 [] 1 0 (r8.Balances.map I).length,B r8.Over]) rfl (cP (vo hr8)) ?_ (dE rfl rfl rfl rfl (bw (bR rfl) dB) (vo hr8) (.inr rfl) rfl)
    refine dk 2 [35,34] [str eR,I gc] ?_
    obtain⟨r9,hr9,h⟩:=bS h
    refine dq [321,322,353,354,355] [] (.tup [I r9.1,B r9.2]) rfl (cd rfl rfl (cO rfl rfl rfl (bw (qw (d6 (fj (f:=str) (g:=str) (xs:=r7.Parties) rfl rfl (ce fh)) (d6 (fj (f:=aQ) (g:=aj) (xs:=r7.Clauses) rfl rfl (ce fP)) lr))) (bw (qw (d6 (jd rfl) (d6 (fj (f:=str) (g:=str) (xs:=r8.Facts) rfl rfl (ce fh)) (d6 (fj (f:=ae) (g:=ae) (xs:=r8.Duties) rfl rfl (ce gx)) (d6 (fj (f:=I) (g:=I) (xs:=r8.Balances) rfl rfl (ce qI)) (d6 (jd rfl) lr)))))) (bw (bR rfl) (bw (bR rfl) dB)))) (QY hr9) (.inl rfl) d9 rfl rfl rfl)) ?_ (dE rfl rfl rfl rfl (bw (qw (d6 (fj (f:=str) (g:=str) (xs:=r7.Parties) rfl rfl (ce fh)) (d6 (fj (f:=aQ) (g:=aj) (xs:=r7.Clauses) rfl rfl (ce fP)) lr))) (bw (qw (d6 (jd rfl) (d6 (fj (f:=str) (g:=str) (xs:=r8.Facts) rfl rfl (ce fh)) (d6 (fj (f:=ae) (g:=ae) (xs:=r8.Duties) rfl rfl (ce gx)) (d6 (fj (f:=I) (g:=I) (xs:=r8.Balances) rfl rfl (ce qI)) (d6 (jd rfl) lr)))))) (bw (bR rfl) (bw (bR rfl) dB)))) (QY hr9) (.inl rfl) rfl)
    refine dk 5 [11,10,38,37,29] [B r9.2,I r9.1,B r9.2,I r9.1,.tup [I r9.1,B r9.2]] ?_
    refine de 497 rfl rfl ?_
    refine cq 3 [39] [aO js] 513 ?_
    obtain⟨r10,hr10,h⟩:=bS h
    refine oq 529 (.agg [.hs 513 0 [] 1 0 (r10.Parties.map str).length,.hs 514 0 [] 12 0 (r10.Clauses.map aQ).length]) rfl (cP (vm hr10)) ?_
    refine ck 1 [12] [] [529] [] [.hp 529 0 [] 2 0 0] [some ⟨0,2,[.agg [.isl true [],.isl true []]]⟩] 545 (by kernel_rfl) ?_
    refine eJ 529 [.agg [.usl 1 (([]).map str),.usl 12 (([]).map aQ)]] rfl rfl (aD (fD (aD (.nil _) (aD (.nil _) dT))) dT) ?_
    refine o0 561 rfl rfl (gw rfl rfl (fp (path:=[]) (pl:=false) (e':=.agg [.usl 1 (r10.Parties.map str),.usl 12 (r10.Clauses.map aQ)]) (es2':=[.agg [.usl 1 (r10.Parties.map str),.usl 12 (r10.Clauses.map aQ)]]) rfl (ls (bK (cN rfl rfl) (bK (cN rfl rfl) lu))) rfl rfl rfl bb rfl rfl rfl rfl rfl d8 2 rfl)) ?_
    refine cq 4 [41] [b7 jt] 577 ?_
    obtain⟨r11,hr11,h⟩:=bS h
    refine oq 593 (.agg [I r11.Day,.hs 577 0 [] 1 0 (r11.Facts.map str).length,.hs 578 0 [] 4 0 (r11.Duties.map ae).length,.hs 579 0 [] 1 0 (r11.Balances.map I).length,B r11.Over]) rfl (cP (vo hr11)) ?_
    refine ck 1 [13] [] [593] [] [.hp 593 0 [] 5 0 0] [some ⟨0,5,[.agg [I (0),.isl true [],.isl true [],.isl true [],B false]]⟩] 609 (by kernel_rfl) ?_
    refine eJ 593 [.agg [I (0),.usl 1 (([]).map str),.usl 4 (([]).map ae),.usl 1 (([]).map I),B false]] rfl rfl (aD (fD (aD (.refl _) (aD (.nil _) (aD (.nil _) (aD (.nil _) (aD (.refl _) dT)))))) dT) ?_
    refine o0 625 rfl rfl (gw rfl rfl (fp (path:=[]) (pl:=false) (e':=.agg [I r11.Day,.usl 1 (r11.Facts.map str),.usl 4 (r11.Duties.map ae),.usl 1 (r11.Balances.map I),B r11.Over]) (es2':=[.agg [I r11.Day,.usl 1 (r11.Facts.map str),.usl 4 (r11.Duties.map ae),.usl 1 (r11.Balances.map I),B r11.Over]]) rfl (ls (bK (co rfl) (bK (cN rfl rfl) (bK (cN rfl rfl) (bK (cN rfl rfl) (bK (co rfl) lu)))))) rfl rfl rfl bb rfl rfl rfl rfl rfl d8 2 rfl)) ?_
    refine cq 7 [44,45,46,47] [.agg [.hs 529 2 [(0,0)] 1 0 (r10.Parties.map str).length,.hs 529 2 [(0,1)] 12 0 (r10.Clauses.map aQ).length],.agg [I r11.Day,.hs 593 2 [(0,1)] 1 0 (r11.Facts.map str).length,.hs 593 2 [(0,2)] 4 0 (r11.Duties.map ae).length,.hs 593 2 [(0,3)] 1 0 (r11.Balances.map I).length,B r11.Over],I gc,str eR] 689 ?_
    obtain⟨r12,hr12,h⟩:=bS h
    refine oq 705 (.tup [I r12.1,B r12.2]) rfl (cd rfl rfl (cO rfl rfl rfl (bw (qw (d6 (jD (path:=[(0,0)]) rfl rfl (eU rfl rfl bb) rfl (ce (f:=str) fh)) (d6 (jD (path:=[(0,1)]) rfl rfl (eU rfl rfl bb) rfl (ce (f:=aQ) fP)) lr))) (bw (qw (d6 (jd rfl) (d6 (jD (path:=[(0,1)]) rfl rfl (eU rfl rfl bb) rfl (ce (f:=str) fh)) (d6 (jD (path:=[(0,2)]) rfl rfl (eU rfl rfl bb) rfl (ce (f:=ae) gx)) (d6 (jD (path:=[(0,3)]) rfl rfl (eU rfl rfl bb) rfl (ce (f:=I) qI)) (d6 (jd rfl) lr)))))) (bw (bR rfl) (bw (bR rfl) dB)))) (aa1 hr12) (.inl rfl) d9 rfl rfl rfl)) ?_
    refine cq 13 [15,54] [B r12.2,B (r12.1 != r9.1)] 849 ?_
    obtain⟨u13,hu13,h⟩:=lJ h
    have j13:Run iC 0 (lB (js,jt,gc,eR) r) (.code (cR (cL (cR (cR (cR (cR (cR (cR (cR (cR (cR (cR (cR gq)))))))))))))::.code (cR (cR (cR (cR (cR (cR (cR (cR (cR (cR (cR (cR gq))))))))))))::[]) (sT 69 [(4,.hp 1 0 [] 2 0 0),(5,.hp 2 0 [] 5 0 0),(12,.hp 3 0 [] 2 0 0),(13,.hp 4 0 [] 5 0 0),(58,B u13)] [⟨0,2,[aO js]⟩,⟨0,5,[b7 jt]⟩,⟨0,2,[.agg [.usl 1 (r10.Parties.map str),.usl 12 (r10.Clauses.map aQ)]]⟩,⟨0,5,[.agg [I r11.Day,.usl 1 (r11.Facts.map str),.usl 4 (r11.Duties.map ae),.usl 1 (r11.Balances.map I),B r11.Over]]⟩] 5):=by
     refine sq h ?_ ?_<;>intro h
     ·refine cq 4 [8] [B false] 21 ?_
      obtain rfl:=sI h
      exact rP [B false]
     ·refine aq 1 ?_
      refine aq 2 ?_
      refine ez [0,0,2,7,15] rfl (by decide +kernel) ?_
      refine dq [3] [] (.agg [.hs 3 0 [(0,0)] 1 0 (r10.Parties.map str).length,.hs 3 0 [(0,1)] 12 0 (r10.Clauses.map aQ).length]) rfl (aY rfl rfl) ?_
      refine dq [1] [] (aO js) rfl (aY rfl rfl) ?_
      obtain⟨r14,hr14,h⟩:=bS h
      refine dq [] [] (.agg [.hs 37 0 [] 1 0 (r14.Parties.map str).length,.hs 38 0 [] 12 0 (r14.Clauses.map aQ).length]) rfl (cP (vm hr14)) ?_ (dE rfl rfl rfl rfl (bw (bR rfl) dB) (vm hr14) (.inr rfl) rfl)
      obtain⟨r15,hr15,h⟩:=bS h
      refine dq [3,3,37,38] [] (B r15) rfl (cd rfl rfl (cO rfl rfl rfl (bw (qw (d6 (jD (path:=[(0,0)]) rfl rfl (eU rfl rfl bb) rfl (ce (f:=str) fh)) (d6 (jD (path:=[(0,1)]) rfl rfl (eU rfl rfl bb) rfl (ce (f:=aQ) fP)) lr))) (bw (qw (d6 (fj (f:=str) (g:=str) (xs:=r14.Parties) rfl rfl (ce fh)) (d6 (fj (f:=aQ) (g:=aj) (xs:=r14.Clauses) rfl rfl (ce fP)) lr))) dB)) (Pf hr15) (.inl rfl) d9 rfl rfl rfl)) ?_ (dE rfl rfl rfl rfl (bw (qw (d6 (jD (path:=[(0,0)]) rfl rfl (eU rfl rfl bb) rfl (ce (f:=str) fh)) (d6 (jD (path:=[(0,1)]) rfl rfl (eU rfl rfl bb) rfl (ce (f:=aQ) fP)) lr))) (bw (qw (d6 (fj (f:=str) (g:=str) (xs:=r14.Parties) rfl rfl (ce fh)) (d6 (fj (f:=aQ) (g:=aj) (xs:=r14.Clauses) rfl rfl (ce fP)) lr))) dB)) (Pf hr15) (.inl rfl) rfl)
      refine dk 1 [63] [B (!r15)] ?_
      refine de 85 rfl rfl ?_
      refine sq h ?_ ?_<;>intro h
      ·refine cq 4 [8] [B false] 101 ?_
       obtain rfl:=sI h
       exact rP [B false]
      ·refine aq 1 ?_
       refine aq 2 ?_
       refine ez [0,0,2,7,15] rfl (by decide +kernel) ?_
       refine dq [4] [] (.agg [I r11.Day,.hs 4 0 [(0,1)] 1 0 (r11.Facts.map str).length,.hs 4 0 [(0,2)] 4 0 (r11.Duties.map ae).length,.hs 4 0 [(0,3)] 1 0 (r11.Balances.map I).length,B r11.Over]) rfl (aY rfl rfl) ?_
       refine dq [2] [] (b7 jt) rfl (aY rfl rfl) ?_
       obtain⟨r16,hr16,h⟩:=bS h
       refine dq [] [] (.agg [I r16.Day,.hs 117 0 [] 1 0 (r16.Facts.map str).length,.hs 118 0 [] 4 0 (r16.Duties.map ae).length,.hs 119 0 [] 1 0 (r16.Balances.map I).length,B r16.Over]) rfl (cP (vo hr16)) ?_ (dE rfl rfl rfl rfl (bw (bR rfl) dB) (vo hr16) (.inr rfl) rfl)
       obtain⟨r17,hr17,h⟩:=bS h
       refine dq [4,4,4,117,118,119] [] (B r17) rfl (cd rfl rfl (cO rfl rfl rfl (bw (qw (d6 (jd rfl) (d6 (jD (path:=[(0,1)]) rfl rfl (eU rfl rfl bb) rfl (ce (f:=str) fh)) (d6 (jD (path:=[(0,2)]) rfl rfl (eU rfl rfl bb) rfl (ce (f:=ae) gx)) (d6 (jD (path:=[(0,3)]) rfl rfl (eU rfl rfl bb) rfl (ce (f:=I) qI)) (d6 (jd rfl) lr)))))) (bw (qw (d6 (jd rfl) (d6 (fj (f:=str) (g:=str) (xs:=r16.Facts) rfl rfl (ce fh)) (d6 (fj (f:=ae) (g:=ae) (xs:=r16.Duties) rfl rfl (ce gx)) (d6 (fj (f:=I) (g:=I) (xs:=r16.Balances) rfl rfl (ce qI)) (d6 (jd rfl) lr)))))) dB)) (Ps hr17) (.inl rfl) d9 rfl rfl rfl)) ?_ (dE rfl rfl rfl rfl (bw (qw (d6 (jd rfl) (d6 (jD (path:=[(0,1)]) rfl rfl (eU rfl rfl bb) rfl (ce (f:=str) fh)) (d6 (jD (path:=[(0,2)]) rfl rfl (eU rfl rfl bb) rfl (ce (f:=ae) gx)) (d6 (jD (path:=[(0,3)]) rfl rfl (eU rfl rfl bb) rfl (ce (f:=I) qI)) (d6 (jd rfl) lr)))))) (bw (qw (d6 (jd rfl) (d6 (fj (f:=str) (g:=str) (xs:=r16.Facts) rfl rfl (ce fh)) (d6 (fj (f:=ae) (g:=ae) (xs:=r16.Duties) rfl rfl (ce gx)) (d6 (fj (f:=I) (g:=I) (xs:=r16.Balances) rfl rfl (ce qI)) (d6 (jd rfl) lr)))))) dB)) (Ps hr17) (.inl rfl) rfl)
       refine dk 1 [68] [B (!r17)] ?_
       refine de 165 rfl rfl ?_
       refine sq h ?_ ?_<;>intro h
       ·refine cq 4 [8] [B false] 181 ?_
        obtain rfl:=sI h
        exact rP [B false]
       ·refine aq 1 ?_
        refine cq 4 [8] [B true] 181 ?_
        obtain rfl:=sI h
        exact rP [B true]
    replace h:=hu13
    clear hu13
    refine sp 54 h rfl ?_ ?_<;>intro h
    ·refine cq 5 [58] [B true] 913 ?_
     subst h
     exact rf [4,5,12,13,58] [1,17,529,593] (j13 :)
    ·refine cq 5 [58] [B (!(r12.2==r9.2))] 913 ?_
     subst h
     exact rf [4,5,12,13,58] [1,17,529,593] (j13 :)
theorem pw {G:bU}:bQ G 4 hI:=gT 4 0 (aJ PI (aJ PO (aJ P4 (aJ Qe (aJ QZ (aJ UQ (aJ Pg (aJ Pt bv)))))))) ca Tryz.func4 (fun a r h=>qn a.1 a.2.1 a.2.2.1 a.2.2.2 r h)
end Go.Ln
