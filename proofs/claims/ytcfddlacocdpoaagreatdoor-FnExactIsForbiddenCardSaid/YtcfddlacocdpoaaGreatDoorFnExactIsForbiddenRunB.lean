/-
  The walks.
-/
import Derived.Test.YtcfddlacocdpoaaGreatDoorFnExactIsForbiddenRunA
set_option maxHeartbeats 4000000
set_option linter.unusedVariables false
set_option linter.unusedSimpArgs false
set_option maxRecDepth 100000
namespace Go.Ln
open Go Go.Proofs
theorem NT (c_1:Contract):cX NS 0 (WJ c_1) (cL (cL (cR (cL (cR (cR WK)))))) 0 (oS c_1) (fun u=>(sT 25 [(3,.hs 1 0 [] 1 0 (u.map str).length)] [⟨0,1,u.map str⟩] 2)) fun x2=>(sT 25 [(3,.hs 1 0 [] 1 0 (x2.2.map str).length),(8,.isl false (c_1.Clauses.map aj)),(9,I (len c_1.Clauses)),(10,I x2.1)] [⟨0,1,x2.2.map str⟩] 2):=eI (E1 c_1) fun {Q K} hK self ih x2 y h hr hn=>by
 unfold lV at h
 refine cq 5 [11] [B (decide (x2.1<(len c_1.Clauses)))] 18 ?_
 refine sq h ?_ ?_<;>intro h
 ·refine aq 1 ?_
  refine aq 4 ?_
  obtain⟨e3,he3,h⟩:=bS h
  refine oq 34 (.iptr (ao e3) 0) rfl (au rfl rfl rfl (aV rfl rfl rfl rfl he3)) ?_
  refine ck 2 [5,13] [] [50] [] [.hp 50 0 [] 12 0 0,ao e3] [some ⟨0,12,[.agg [str ([]),I (0),I (0),str ([]),I (0),I (0),I (0),str ([]),I (0),.isl true [],I (0),str ([])]]⟩] 66 (by kernel_rfl) ?_
  refine eM 50 [.agg [str ([]),I (0),I (0),str ([]),I (0),I (0),I (0),str ([]),I (0),.usl 4 (([]).map aC),I (0),str ([])]] rfl rfl (aD (fF (aD (.refl _) (aD (.refl _) (aD (.refl _) (aD (.refl _) (aD (.refl _) (aD (.refl _) (aD (.refl _) (aD (.refl _) (aD (.refl _) (aD (.nil _) (aD (.refl _) (aD (.refl _) dU))))))))))))) dU) ?_
  refine ck 2 [] [] [50] [] [] [some ⟨2,12,[ao e3]⟩] 82 (by kernel_rfl) ?_
  refine eB [0,1,0,0,8,24,60,127,255] rfl (by decide +kernel) ?_
  refine dq [50] [] (.hp 50 0 [] 12 0 6) rfl (al rfl rfl rfl) ?_
  refine dq [50] [] (ah e3.When) rfl (aY rfl rfl) ?_
  refine dk 1 [16] [.hs 1 0 [] 1 0 (x2.2.map str).length] ?_
  refine dq [50] [] (.hp 50 0 [] 12 0 3) rfl (al rfl rfl rfl) ?_
  refine dq [50] [] (str e3.Action) rfl (aY rfl rfl) ?_
  refine dq [] [] (.hs 162 0 [] 1 0 1) rfl (fx rfl (ow (f:=I) (xs:=[]) (z:=str ([])) (es:=[str e3.Action]) (ws:=[str e3.Action]) rfl rfl rfl (by decide) rfl (eq rfl) rfl)) ?_
  obtain⟨a4,ha4,h⟩:=bS h
  refine dq [1,162] [1] (.hs 178 0 [] 1 0 (a4.map str).length) rfl (kJ rfl rfl rfl rfl rfl (oU (path:=[]) (f:=str) (xs:=x2.2) (ys:=[e3.Action]) rfl rfl (GZ rfl rfl rfl) rfl rfl rfl bc rfl (by decide) js ha4 rfl qC)) ?_ (I7 rfl (I2 (path:=[]) (f:=str) (xs:=[e3.Action]) rfl rfl bc l4 rfl))
  obtain⟨r5,hr5,h⟩:=bS h
  refine dq [178] [178] (.hs 194 0 [] 1 0 (r5.map str).length) rfl (ce rfl rfl (cS rfl rfl rfl (bA (bV rfl) (uL (qU rfl (lP (path:=[]) rfl rfl bc rfl)) dB)) (WE hr5) (.inr rfl) (tX rfl rfl rfl mD eb) rfl rfl rfl)) ?_ (dE rfl rfl rfl rfl (bA (bV rfl) (uL (qU rfl (lP (path:=[]) rfl rfl bc rfl)) dB)) (WE hr5) (.inr rfl) rfl)
  refine dk 1 [3] [.hs 194 0 [] 1 0 (r5.map str).length] ?_
  refine de 226 rfl rfl ?_
  refine cq 5 [10] [I (az (x2.1+1))] 258 ?_
  refine dQ ?_
  exact rf [3,8,9,10] [194] (ih _ _ h hr hn :)
 ·refine aq 1 ?_
  exact rf [3] [1] (hn _ (ai h) :) (hk:=hK)
theorem Xx (c_1:Contract)(r:(List aa))(h:sN c_1=some r):bo NS Tryz.f101 [false] 0 (Ir c_1) (Iv r):=by
 show Run _ _ (WJ c_1 r) [.code WK] _
 refine rI 25 [(0,ac c_1)] [] 1 ?_
 unfold sN at h
 refine ck 7 [1] [] [1] [] [.hp 1 0 [] 2 0 0] [some ⟨0,2,[ac c_1]⟩] 33 (by kernel_rfl) ?_
 refine oq 49 (.hs 33 0 [] 1 0 0) rfl (fx rfl (ow (f:=I) (xs:=[]) (z:=str ([])) (es:=[]) (ws:=[]) rfl rfl rfl (by decide) rfl (eq rfl) rfl)) ?_
 refine cq 7 [3,8] [.hs 33 0 [] 1 0 0,.isl false (c_1.Clauses.map aj)] 97 ?_
 refine oq 113 (I (len c_1.Clauses)) rfl (br rfl rfl rfl (bC rfl)) ?_
 refine cq 3 [10] [I (0)] 129 ?_
 obtain⟨y6,hy6,hy61,hy62⟩:=bJ h
 refine cj rfl ?_
 refine rf [3,8,9,10] [33] (NT c_1 rfl (0,[]) _ hy6 (fun r' e st hq=>by rw[hy61 r' e] at hq;exact hq) fun u6 hu=>?_)
 replace h:=hy62 u6 hu
 refine cq 3 [23] [.hs 1 0 [] 1 0 (u6.map str).length] 18 ?_
 obtain⟨r7,hr7,h⟩:=bS h
 refine oq 34 (.hs 18 0 [] 1 0 (r7.map str).length) rfl (ce rfl rfl (cS rfl rfl rfl (uL (qU rfl (lP (path:=[]) rfl rfl bc rfl)) dB) (YM hr7) (.inr rfl) (tX rfl rfl rfl mD eb) rfl rfl rfl)) ?_
 refine cq 2 [2] [.hs 18 0 [] 1 0 (r7.map str).length] 50 ?_
 obtain rfl:=sI h
 exact ca rfl ⟨_,fin (vs:=[.hs 18 0 [] 1 0 (r7.map str).length]) rfl (fq (eR rfl (cQ rfl rfl)) eA) rfl (eS fy),ft⟩
theorem Ba {G:bR}:bQ G 101 sP:=gT 1 0 (aJ Vg (aJ O5 bq)) bX Tryz.func101 (fun a r h=>Xx a r h)
def H3:Contract→List V:=oA aO
def H5 (r:Bool):V×List V:=(B r,[])
noncomputable def F2 :=aZ [false] H3 H5 fun x=>Jp x
theorem abp {c_1:Contract}{r}(h:Jp c_1=some r):F2.F (H3 c_1)=some (H5 r):=aH (aI bb) h
noncomputable def H6 :=aF Tryz.f47
noncomputable def H4 :=bW [(98,Gp),(100,Gw),(101,sP),(99,hI)]
def Cu (x:Contract)(r:Bool):St→Prop:=QF H4 Tryz.f47 [false] (H3 x) (H5 r)
theorem Nr (c_1:Contract):cX H4 0 (Cu c_1) (cL (cL (cR (cL (cR (cR H6)))))) 0 (mQ c_1) (fun u=>(sT 30 [(1,.hp 1 0 [] 2 0 0)] [⟨0,2,[ac c_1]⟩] 2)) fun x4=>(sT 30 [(1,.hp 1 0 [] 2 0 0),(17,I (len c_1.Clauses)),(18,I x4)] [⟨0,2,[ac c_1]⟩] 2):=eI (Cw c_1) fun {Q K} hK self ih x4 y h hr hn=>by
 unfold lS at h
 refine cq 5 [19] [B (decide (x4<(len c_1.Clauses)))] 18 ?_
 refine sq h ?_ ?_<;>intro h
 ·refine aq 1 ?_
  refine cq 11 [21,22] [ac c_1,I x4] 82 ?_
  obtain⟨r5,hr5,h⟩:=bS h
  refine oq 98 (B r5) rfl (cP (abD hr5)) ?_
  refine cq 2 [24] [B (!r5)] 114 ?_
  refine sq h ?_ ?_<;>intro h
  ·refine cq 4 [2] [B false] 130 ?_
   exact ca rfl (hr _ (ai h) _ (qp [B false]))
  ·refine aq 1 ?_
   refine cq 5 [18] [I (az (x4+1))] 146 ?_
   refine dQ ?_
   exact rf [1,17,18] [1] (ih _ _ h hr hn :)
 ·refine aq 1 ?_
  exact rf [1] [1] (hn _ (ai h) :) (hk:=hK)
theorem Xe (c_1:Contract)(r:Bool)(h:Jp c_1=some r):bo H4 Tryz.f47 [false] 0 (H3 c_1) (H5 r):=by
 show Run _ _ (Cu c_1 r) [.code H6] _
 refine rI 30 [(0,ac c_1)] [] 1 ?_
 unfold Jp at h
 refine ck 10 [1,5] [] [1] [] [.hp 1 0 [] 2 0 0,.isl false (c_1.Parties.map str)] [some ⟨0,2,[ac c_1]⟩] 65 (by kernel_rfl) ?_
 obtain⟨r2,hr2,h⟩:=bS h
 refine oq 81 (B r2) rfl (cP (abr hr2)) ?_
 refine cq 2 [8] [B (!r2)] 113 ?_
 obtain⟨y3,hy3,hy31,hy32⟩:=bJ h
 have j3:∀u3,y3=.inr u3→Run H4 0 (Cu c_1 r) (.code (cR (cL (cR H6)))::.code (cR (cR H6))::[]) (sT 30 [(1,.hp 1 0 [] 2 0 0),(14,B u3)] [⟨0,2,[ac c_1]⟩] 2):=by
  intro u3 hu
  replace h:=hy32 u3 hu
  refine sq h ?_ ?_<;>intro h
  ·refine cq 4 [2] [B false] 18 ?_
   obtain rfl:=sI h
   exact rP [B false]
  ·refine aq 1 ?_
   refine cq 5 [16] [.isl false (c_1.Clauses.map aj)] 34 ?_
   refine oq 50 (I (len c_1.Clauses)) rfl (br rfl rfl rfl (bC rfl)) ?_
   refine cq 3 [18] [I (0)] 66 ?_
   obtain⟨y6,hy6,hy61,hy62⟩:=bJ h
   refine cj rfl ?_
   refine rf [1,17,18] [1] (Nr c_1 rfl 0 _ hy6 (fun r' e st hq=>by rw[hy61 r' e] at hq;exact hq) fun u6 hu=>?_)
   replace h:=hy62 u6 hu
   refine cq 3 [26] [ac c_1] 18 ?_
   obtain⟨r7,hr7,h⟩:=bS h
   refine oq 34 (.hs 18 0 [] 1 0 (r7.map str).length) rfl (cP (Iu hr7)) ?_
   refine oq 50 (I (len r7)) rfl (br rfl rfl rfl (xg (f:=str) (xs:=r7) rfl rfl)) ?_
   refine cq 3 [2] [B (decide ((len r7)≤16))] 82 ?_
   obtain rfl:=sI h
   exact rP [B (decide ((len r7)≤16))]
 have r3:∀r',y3=.inl r'→∀st,Cu c_1 r' st→(Cu c_1 r) st:=fun r' e st hq=>by rw[hy31 r' e] at hq;exact hq
 replace h:=hy3
 refine sp 8 h rfl ?_ ?_<;>intro h
 ·refine cq 7 [14] [B true] 209 ?_
  exact rf [1,14] [1] (j3 _ (ai h) :)
 ·refine cq 2 [10] [.isl false (c_1.Clauses.map aj)] 145 ?_
  refine oy 161 (I (len c_1.Clauses)) rfl (br rfl rfl rfl (bC rfl)) ?_
  obtain⟨r8,hr8,h⟩:=bS h
  refine oy 177 (B r8) rfl (cP (hC hr8)) ?_
  refine cq 3 [14] [B (!r8)] 209 ?_
  exact rf [1,14] [1] (j3 _ (ai h) :)
theorem T7 {G:bR}:bQ G 47 F2:=gT 1 0 (aJ Vh (aJ Vo (aJ Ba (aJ ip bq)))) bX Tryz.func47 (fun a r h=>Xe a r h)
def IL:(List aa)→List V:=oA (fa str)
def IO (r:Bool):V×List V:=(B r,[])
noncomputable def GB :=aZ [false] IL IO fun x=>Kb x
theorem abQ {bZ:List aa}{r}(h:Kb bZ=some r):GB.F (IL bZ)=some (IO r):=aH (aI (bv ba)) h
noncomputable def WQ :=aF Tryz.f158
noncomputable abbrev sR :=cL (cL (cR (cL (cR WQ))))
noncomputable abbrev Sj :=cR (cR (cL (cL (cR (cR sR)))))
noncomputable def E3 :=bW [(81,nQ)]
def IM (x:(List aa))(r:Bool):St→Prop:=QF E3 Tryz.f158 [false] (IL x) (IO r)
theorem NU (bZ:List aa):cX E3 0 (IM bZ) sR 0 (mX bZ) (fun u=>(sT 32 [(0,.isl false (bZ.map str))] [] 1)) fun x2=>(sT 32 [(0,.isl false (bZ.map str)),(5,.isl false (bZ.map str)),(6,I (len bZ)),(7,I x2)] [] 1):=eI (E4 bZ) fun {Q K} hK self ih x2 y h hr hn=>by
 unfold lW at h
 refine cq 5 [8] [B (decide (x2<(len bZ)))] 17 ?_
 refine sq h ?_ ?_<;>intro h
 ·refine aq 1 ?_
  refine cq 5 [9] [I x2] 33 ?_
  obtain⟨e3,he3,h⟩:=bS h
  refine oq 49 (.iptr (str e3) 0) rfl (au rfl rfl rfl (aV rfl rfl rfl rfl he3)) ?_
  refine cq 7 [3,4,12] [I x2,str e3,str e3] 113 ?_
  obtain⟨r4,hr4,h⟩:=bS h
  refine oq 129 (B r4) rfl (cP (wP hr4)) ?_
  refine cq 2 [15] [B (!r4)] 161 ?_
  obtain⟨y5,hy5,hy51,hy52⟩:=bL h
  have j5:∀u5,y5=.inr u5→Run E3 0 Q (.code Sj::.blk 1::.code (cR (cR (cR sR)))::.lp sR::.blk 0::K) (sT 32 [(0,.isl false (bZ.map str)),(5,.isl false (bZ.map str)),(6,I (len bZ)),(7,I x2),(27,B u5)] [] 1):=by
   intro u5 hu
   replace h:=hy52 u5 hu
   refine sq h ?_ ?_<;>intro h
   ·refine cq 4 [2] [B false] 17 ?_
    exact ca rfl (hr _ (ai h) _ (qp [B false]))
   ·refine aq 1 ?_
    refine cq 5 [7] [I (az (x2+1))] 33 ?_
    refine dQ ?_
    exact rf [0,5,6,7] [] (ih _ _ h hr hn :)
  have r5:∀r',y5=.inl r'→∀st,IM bZ r' st→Q st:=fun r' e st hq=>hr r' (hy51 r' e) st hq
  replace h:=hy5
  refine sp 15 h rfl ?_ ?_<;>intro h
  ·refine cq 13 [27] [B true] 353 ?_
   exact rf [0,5,6,7,27] [] (j5 _ (ai h) :)
  ·refine cq 3 [18] [B (decide (x2>0))] 209 ?_
   obtain⟨y6,hy6,hy61,hy62⟩:=bL h
   have j6:∀u6,y6=.inr u6→Run E3 0 Q (.code Sj::.blk 1::.code (cR (cR (cR sR)))::.lp sR::.blk 0::K) (sT 32 [(0,.isl false (bZ.map str)),(5,.isl false (bZ.map str)),(6,I (len bZ)),(7,I x2),(27,B u6)] [] 1):=by
    intro u6 hu
    replace h:=hy62 u6 hu
    exact rf [0,5,6,7,27] [] (j5 _ (ai h) :)
   have r6:∀r',y6=.inl r'→∀st,IM bZ r' st→Q st:=fun r' e st hq=>r5 r' (hy61 r' e) st hq
   replace h:=hy6
   refine sp 18 h rfl ?_ ?_<;>intro h
   ·refine cq 4 [19,20,22] [str e3,.isl false (bZ.map str),I (az (x2 - 1))] 273 ?_
    obtain⟨e7,he7,h⟩:=bS h
    refine oy 289 (.iptr (str e7) 0) rfl (au rfl rfl rfl (aV rfl rfl rfl rfl he7)) ?_
    refine cq 5 [27] [B (Op.bytesLess e3 e7||e3==e7)] 353 ?_
    exact rf [0,5,6,7,27] [] (j6 _ (ai h) :)
   ·refine cq 10 [27] [B false] 353 ?_
    exact rf [0,5,6,7,27] [] (j6 _ (ai h) :)
 ·refine aq 1 ?_
  exact rf [0] [] (hn _ (ai h) :) (hk:=hK)
theorem XF (bZ:List aa)(r:Bool)(h:Kb bZ=some r):bo E3 Tryz.f158 [false] 0 (IL bZ) (IO r):=by
 show Run _ _ (IM bZ r) [.code WQ] _
 refine rI 32 [(0,.isl false (bZ.map str))] [] 1 ?_
 unfold Kb at h
 refine cq 8 [5] [.isl false (bZ.map str)] 33 ?_
 refine oq 49 (I (len bZ)) rfl (br rfl rfl rfl (bC rfl)) ?_
 refine cq 3 [7] [I (0)] 65 ?_
 obtain⟨y8,hy8,hy81,hy82⟩:=bJ h
 refine cj rfl ?_
 refine rf [0,5,6,7] [] (NU bZ rfl 0 _ hy8 (fun r' e st hq=>by rw[hy81 r' e] at hq;exact hq) fun u8 hu=>?_)
 replace h:=hy82 u8 hu
 refine cq 3 [29] [.isl false (bZ.map str)] 17 ?_
 refine oq 33 (I (len bZ)) rfl (br rfl rfl rfl (bC rfl)) ?_
 refine cq 3 [2] [B (decide ((len bZ)≤16))] 65 ?_
 obtain rfl:=sI h
 exact rP [B (decide ((len bZ)≤16))]
theorem Vt {G:bR}:bQ G 158 GB:=gT 1 0 (aJ qa bq) bX Tryz.func158 (fun a r h=>XF a r h)
def IR:(aa×(List aa))→List V:=cA str (oA (fun x:List aa=>.iptr ((fa str) x) 0))
def IT (r:Bool):V×List V:=(B r,[])
noncomputable def GD :=aZ [false,false] IR IT fun x=>Kd x.1 x.2
theorem abS {f_1:aa}{a_2:List aa}{r}(h:Kd f_1 a_2=some r):GD.F (IR (f_1,a_2))=some (IT r):=aH (aK ba (aI (eW (bv ba)))) h
noncomputable def abU :=aF Tryz.f160
noncomputable def WR :=bW [(129,nP)]
def abT (x:aa×(List aa))(r:Bool):St→Prop:=QF WR Tryz.f160 [false,false] (IR x) (IT r)
theorem XH (f_1:aa)(a_2:List aa)(r:Bool)(h:Kd f_1 a_2=some r):bo WR Tryz.f160 [false,false] 0 (IR (f_1,a_2)) (IT r):=by
 show Run _ _ (abT (f_1,a_2) r) [.code abU] _
 refine rI 8 [(0,str f_1),(1,.iptr (.isl false (a_2.map str)) 0)] [] 1 ?_
 unfold Kd at h
 refine cq 8 [4,5] [.isl false (a_2.map str),str f_1] 49 ?_
 obtain⟨r3,hr3,h⟩:=bS h
 refine oq 65 (B r3) rfl (cP (Dd hr3)) ?_
 refine cq 3 [3] [B (!r3)] 97 ?_
 obtain rfl:=sI h
 exact rP [B (!r3)]
theorem Vv {G:bR}:bQ G 160 GD:=gT 2 0 (aJ qJ bq) bX Tryz.func160 (fun a r h=>XH a.1 a.2 r h)
def Dt:((List aa)×(List aa))→List V:=cA (fa str) (oA (fun x:(List aa)=>(.fn 160 [.iptr ((fa str) x) 0]:V)))
def Du (r:Int):V×List V:=(I r,[])
noncomputable def Ak :=aZ [false,false] Dt Du fun x=>Gd x.1 x.2
theorem aaa {s_1:List aa}{f_2:(List aa)}{r}(h:Gd s_1 f_2=some r):Ak.F (Dt (s_1,f_2))=some (Du r):=aH (aK (bv ba) (aI (tc (bv ba)))) h
noncomputable def Q4 :=aF Tryz.f182
noncomputable def JF :=bW [(160,GD)]
def Q3 (x:(List aa)×(List aa))(r:Int):St→Prop:=QF JF Tryz.f182 [false,false] (Dt x) (Du r)
theorem LS (s_1:List aa)(f_2:(List aa)):cX JF 0 (Q3 (s_1,f_2)) (cL (cL (cR (cL (cR Q4))))) 0 (sj s_1 f_2) (fun u=>(sT 19 [] [] 1)) fun x3=>(sT 19 [(0,.isl false (s_1.map str)),(1,.fn 160 [.iptr (.isl false (f_2.map str)) 0]),(7,I (len s_1)),(8,I x3)] [] 1):=eI (xP s_1 f_2) fun {Q K} hK self ih x3 y h hr hn=>by
 unfold mn at h
 refine cq 5 [9] [B (decide (x3<(len s_1)))] 17 ?_
 refine sq h ?_ ?_<;>intro h
 ·refine aq 1 ?_
  refine cq 12 [5,11,12,13] [I x3,.fn 160 [.iptr (.isl false (f_2.map str)) 0],.isl false (s_1.map str),I x3] 97 ?_
  obtain⟨e4,he4,h⟩:=bS h
  refine oq 113 (.iptr (str e4) 0) rfl (au rfl rfl rfl (aV rfl rfl rfl rfl he4)) ?_
  refine cq 1 [15] [str e4] 129 ?_
  obtain⟨r5,hr5,h⟩:=bS h
  refine oq 145 (B r5) rfl (cP (abS hr5)) ?_
  refine aq 1 ?_
  refine sq h ?_ ?_<;>intro h
  ·refine cq 5 [4] [I x3] 177 ?_
   exact ca rfl (hr _ (ai h) _ (qp [I x3]))
  ·refine aq 1 ?_
   refine cq 5 [8] [I (az (x3+1))] 177 ?_
   refine dQ ?_
   exact rf [0,1,7,8] [] (ih _ _ h hr hn :)
 ·refine aq 1 ?_
  exact rf [] [] (hn _ (ai h) :) (hk:=hK)
theorem UC (s_1:List aa)(f_2:(List aa))(r:Int)(h:Gd s_1 f_2=some r):bo JF Tryz.f182 [false,false] 0 (Dt (s_1,f_2)) (Du r):=by
 show Run _ _ (Q3 (s_1,f_2) r) [.code Q4] _
 refine rI 19 [(0,.isl false (s_1.map str)),(1,.fn 160 [.iptr (.isl false (f_2.map str)) 0])] [] 1 ?_
 unfold Gd at h
 refine cq 8 [6] [.isl false (s_1.map str)] 33 ?_
 refine oq 49 (I (len s_1)) rfl (br rfl rfl rfl (bC rfl)) ?_
 refine cq 3 [8] [I (0)] 65 ?_
 obtain⟨y6,hy6,hy61,hy62⟩:=bJ h
 refine cj rfl ?_
 refine rf [0,1,7,8] [] (LS s_1 f_2 rfl 0 _ hy6 (fun r' e st hq=>by rw[hy61 r' e] at hq;exact hq) fun u6 hu=>?_)
 replace h:=hy62 u6 hu
 refine cq 4 [4] [I (-1)] 17 ?_
 obtain rfl:=sI h
 exact rP [I (-1)]
theorem Q5 {G:bR}:bQ G 182 Ak:=gT 2 0 (aJ Vv bq) bX Tryz.func182 (fun a r h=>UC a.1 a.2 r h)
def Da:((List aa)×(List aa))→List V:=cA (fa str) (oA (fun x:(List aa)=>(.fn 160 [.iptr ((fa str) x) 0]:V)))
def Db (r:Bool):V×List V:=(B r,[])
noncomputable def Ac :=aZ [false,false] Da Db fun x=>F7 x.1 x.2
theorem Z0 {s_1:List aa}{f_2:(List aa)}{r}(h:F7 s_1 f_2=some r):Ac.F (Da (s_1,f_2))=some (Db r):=aH (aK (bv ba) (aI (tc (bv ba)))) h
noncomputable def Z2 :=aF Tryz.f159
noncomputable def QK :=bW [(182,Ak)]
def Z1 (x:(List aa)×(List aa))(r:Bool):St→Prop:=QF QK Tryz.f159 [false,false] (Da x) (Db r)
theorem Uv (s_1:List aa)(f_2:(List aa))(r:Bool)(h:F7 s_1 f_2=some r):bo QK Tryz.f159 [false,false] 0 (Da (s_1,f_2)) (Db r):=by
 show Run _ _ (Z1 (s_1,f_2) r) [.code Z2] _
 refine rI 9 [(0,.isl false (s_1.map str)),(1,.fn 160 [.iptr (.isl false (f_2.map str)) 0])] [] 1 ?_
 unfold F7 at h
 refine cq 8 [5,6] [.isl false (s_1.map str),.fn 160 [.iptr (.isl false (f_2.map str)) 0]] 49 ?_
 obtain⟨r3,hr3,h⟩:=bS h
 refine oq 65 (I r3) rfl (ce rfl rfl (cS rfl rfl rfl (bA (bV rfl) (bA (HL (d7 (jg rfl) lw)) dB)) (aaa hr3) (.inr rfl) eb rfl rfl rfl)) ?_
 refine cq 3 [4] [B (decide (r3≥0))] 97 ?_
 obtain rfl:=sI h
 exact rP [B (decide (r3≥0))]
theorem QL {G:bR}:bQ G 159 Ac:=gT 2 0 (aJ Q5 bq) bX Tryz.func159 (fun a r h=>Uv a.1 a.2 r h)
def BP:(List Int)→List V:=oA (fa I)
def BQ (r:Int):V×List V:=(I r,[])
noncomputable def yX :=aZ [false] BP BQ fun x=>uX x
theorem YP {ar:List Int}{r}(h:uX ar=some r):yX.F (BP ar)=some (BQ r):=aH (aI (bv bz)) h
noncomputable def O7 :=aF Tryz.f161
noncomputable def Jc :=bW []
def O6 (x:(List Int))(r:Int):St→Prop:=QF Jc Tryz.f161 [false] (BP x) (BQ r)
theorem Lx (ar:List Int):cX Jc 0 (O6 ar) (cL (cL (cR (cL (cR (cR O7)))))) 0 (F0 ar) (fun u=>(sT 17 [(3,I u)] [] 1)) fun x2=>(sT 17 [(3,I x2.1),(6,.isl false (ar.map I)),(7,I (len ar)),(8,I x2.2)] [] 1):=eI (Lw ar) fun {Q K} hK self ih x2 y h hr hn=>by
 unfold qF at h
 refine cq 5 [9] [B (decide (x2.2<(len ar)))] 17 ?_
 refine sq h ?_ ?_<;>intro h
 ·refine aq 1 ?_
  refine aq 4 ?_
  obtain⟨e3,he3,h⟩:=bS h
  refine oq 33 (.iptr (I e3) 0) rfl (au rfl rfl rfl (aV rfl rfl rfl rfl he3)) ?_
  refine cq 14 [3,8] [I (az (x2.1+e3)),I (az (x2.2+1))] 161 ?_
  refine dQ ?_
  exact rf [3,6,7,8] [] (ih _ _ h hr hn :)
 ·refine aq 1 ?_
  exact rf [3] [] (hn _ (ai h) :) (hk:=hK)
theorem TG (ar:List Int)(r:Int)(h:uX ar=some r):bo Jc Tryz.f161 [false] 0 (BP ar) (BQ r):=by
 show Run _ _ (O6 ar r) [.code O7] _
 refine rI 17 [(0,.isl false (ar.map I))] [] 1 ?_
 unfold uX at h
 refine cq 12 [3,6] [I (0),.isl false (ar.map I)] 49 ?_
 refine oq 65 (I (len ar)) rfl (br rfl rfl rfl (bC rfl)) ?_
 refine cq 3 [8] [I (0)] 81 ?_
 obtain⟨y4,hy4,hy41,hy42⟩:=bJ h
 refine cj rfl ?_
 refine rf [3,6,7,8] [] (Lx ar rfl (0,0) _ hy4 (fun r' e st hq=>by rw[hy41 r' e] at hq;exact hq) fun u4 hu=>?_)
 replace h:=hy42 u4 hu
 refine cq 5 [2] [I u4] 33 ?_
 obtain rfl:=sI h
 exact rP [I u4]
theorem O8 {G:bR}:bQ G 161 yX:=gT 1 0 bq bX Tryz.func161 (fun a r h=>TG a r h)
def IE:(Clause×Contract×Int)→List V:=cA aj (cA (fun x:Contract=>.iptr (aO x) 0) (oA (fun x:Int=>.iptr (I x) 0)))
def IG (r:Bool):V×List V:=(B r,[])
noncomputable def Gy :=aZ [false,false,false] IE IG fun x=>J9 x.1 x.2.1 x.2.2
theorem abJ {x_1:Clause}{a_2:Contract}{a_3:Int}{r}(h:J9 x_1 a_2 a_3=some r):Gy.F (IE (x_1,a_2,a_3))=some (IG r):=aH (aK cC (aK (eW bb) (aI (eW bz)))) h
noncomputable def abL :=aF Tryz.f195
noncomputable def WO :=bW []
def abK (x:Clause×Contract×Int)(r:Bool):St→Prop:=QF WO Tryz.f195 [false,false,false] (IE x) (IG r)
theorem XC (x_1:Clause)(a_2:Contract)(a_3:Int)(r:Bool)(h:J9 x_1 a_2 a_3=some r):bo WO Tryz.f195 [false,false,false] 0 (IE (x_1,a_2,a_3)) (IG r):=by
 show Run _ _ (abK (x_1,a_2,a_3) r) [.code abL] _
 refine rI 14 [(0,ao x_1),(1,.iptr (ac a_2) 0),(2,.iptr (I a_3) 0)] [] 1 ?_
 unfold J9 at h
 refine ck 6 [3] [] [1] [] [.hp 1 0 [] 12 0 0] [some ⟨0,12,[ao x_1]⟩] 33 (by kernel_rfl) ?_
 refine eB [0,1,0,4,0,28,60,124,255,511] rfl (by decide +kernel) ?_
 refine dq [1] [] (.hp 1 0 [] 12 0 11) rfl (al rfl rfl rfl) ?_
 refine dq [1] [] (str x_1.Repair) rfl (aY rfl rfl) ?_
 refine dq [] [] (.iptr (ac a_2) 1) rfl (al rfl rfl rfl) ?_
 refine dq [] [] (.isl false (a_2.Clauses.map aj)) rfl (aY rfl rfl) ?_
 refine dq [] [] (I a_3) rfl (aY rfl rfl) ?_
 obtain⟨e4,he4,h⟩:=bS h
 refine dq [] [] (.iptr (ao e4) 0) rfl (au rfl rfl rfl (aV rfl rfl rfl rfl he4)) ?_
 refine dq [] [] (.iptr (ao e4) 0) rfl (al rfl rfl rfl) ?_
 refine dq [] [] (str e4.Id) rfl (aY rfl rfl) ?_
 refine dk 2 [4,13] [B (x_1.Repair==e4.Id),B (x_1.Repair==e4.Id)] ?_
 refine de 193 rfl rfl ?_
 obtain rfl:=sI h
 exact rP [B (x_1.Repair==e4.Id)]
theorem Vq {G:bR}:bQ G 195 Gy:=gT 3 0 bq bX Tryz.func195 (fun a r h=>XC a.1 a.2.1 a.2.2 r h)
def Dh:((List Clause)×(Contract×Int))→List V:=cA (fa aj) (oA (fun x:Contract×Int=>(.fn 195 [.iptr (aO x.1) 0,.iptr (I x.2) 0]:V)))
def Di (r:Int):V×List V:=(I r,[])
noncomputable def Af :=aZ [false,false] Dh Di fun x=>F9 x.1 x.2
theorem Z6 {s_1:List Clause}{f_2:Contract×Int}{r}(h:F9 s_1 f_2=some r):Af.F (Dh (s_1,f_2))=some (Di r):=aH (aK (bv cC) (aI (MQ bb bz))) h
noncomputable def QR :=aF Tryz.f110
noncomputable def JB :=bW [(195,Gy)]
def QQ (x:(List Clause)×(Contract×Int))(r:Int):St→Prop:=QF JB Tryz.f110 [false,false] (Dh x) (Di r)
theorem LO (s_1:List Clause)(f_2:Contract×Int):cX JB 0 (QQ (s_1,f_2)) (cL (cL (cR (cL (cR QR))))) 0 (sd s_1 f_2) (fun u=>(sT 19 [] [] 1)) fun x3=>(sT 19 [(0,.isl false (s_1.map aj)),(1,.fn 195 [.iptr (ac f_2.1) 0,.iptr (I f_2.2) 0]),(7,I (len s_1)),(8,I x3)] [] 1):=eI (xL s_1 f_2) fun {Q K} hK self ih x3 y h hr hn=>by
 unfold mi at h
 refine cq 5 [9] [B (decide (x3<(len s_1)))] 17 ?_
 refine sq h ?_ ?_<;>intro h
 ·refine aq 1 ?_
  refine cq 12 [5,11,12,13] [I x3,.fn 195 [.iptr (ac f_2.1) 0,.iptr (I f_2.2) 0],.isl false (s_1.map aj),I x3] 97 ?_
  obtain⟨e4,he4,h⟩:=bS h
  refine oq 113 (.iptr (ao e4) 0) rfl (au rfl rfl rfl (aV rfl rfl rfl rfl he4)) ?_
  refine cq 1 [15] [ao e4] 129 ?_
  obtain⟨r5,hr5,h⟩:=bS h
  refine oq 145 (B r5) rfl (cP (abJ hr5)) ?_
  refine aq 1 ?_
  refine sq h ?_ ?_<;>intro h
  ·refine cq 5 [4] [I x3] 177 ?_
   exact ca rfl (hr _ (ai h) _ (qp [I x3]))
  ·refine aq 1 ?_
   refine cq 5 [8] [I (az (x3+1))] 177 ?_
   refine dQ ?_
   exact rf [0,1,7,8] [] (ih _ _ h hr hn :)
 ·refine aq 1 ?_
  exact rf [] [] (hn _ (ai h) :) (hk:=hK)
theorem Uy (s_1:List Clause)(f_2:Contract×Int)(r:Int)(h:F9 s_1 f_2=some r):bo JB Tryz.f110 [false,false] 0 (Dh (s_1,f_2)) (Di r):=by
 show Run _ _ (QQ (s_1,f_2) r) [.code QR] _
 refine rI 19 [(0,.isl false (s_1.map aj)),(1,.fn 195 [.iptr (ac f_2.1) 0,.iptr (I f_2.2) 0])] [] 1 ?_
 unfold F9 at h
 refine cq 8 [6] [.isl false (s_1.map aj)] 33 ?_
 refine oq 49 (I (len s_1)) rfl (br rfl rfl rfl (bC rfl)) ?_
 refine cq 3 [8] [I (0)] 65 ?_
 obtain⟨y6,hy6,hy61,hy62⟩:=bJ h
 refine cj rfl ?_
 refine rf [0,1,7,8] [] (LO s_1 f_2 rfl 0 _ hy6 (fun r' e st hq=>by rw[hy61 r' e] at hq;exact hq) fun u6 hu=>?_)
 replace h:=hy62 u6 hu
 refine cq 4 [4] [I (-1)] 17 ?_
 obtain rfl:=sI h
 exact rP [I (-1)]
theorem QS {G:bR}:bQ G 110 Af:=gT 2 0 (aJ Vq bq) bX Tryz.func110 (fun a r h=>Uy a.1 a.2 r h)
def C4:((List Clause)×(Contract×Int))→List V:=cA (fa aj) (oA (fun x:Contract×Int=>(.fn 195 [.iptr (aO x.1) 0,.iptr (I x.2) 0]:V)))
def C5 (r:Bool):V×List V:=(B r,[])
noncomputable def zZ :=aZ [false,false] C4 C5 fun x=>F4 x.1 x.2
theorem ZR {s_1:List Clause}{f_2:Contract×Int}{r}(h:F4 s_1 f_2=some r):zZ.F (C4 (s_1,f_2))=some (C5 r):=aH (aK (bv cC) (aI (MQ bb bz))) h
noncomputable def ZT :=aF Tryz.f194
noncomputable def QD :=bW [(110,Af)]
def ZS (x:(List Clause)×(Contract×Int))(r:Bool):St→Prop:=QF QD Tryz.f194 [false,false] (C4 x) (C5 r)
theorem Us (s_1:List Clause)(f_2:Contract×Int)(r:Bool)(h:F4 s_1 f_2=some r):bo QD Tryz.f194 [false,false] 0 (C4 (s_1,f_2)) (C5 r):=by
 show Run _ _ (ZS (s_1,f_2) r) [.code ZT] _
 refine rI 9 [(0,.isl false (s_1.map aj)),(1,.fn 195 [.iptr (ac f_2.1) 0,.iptr (I f_2.2) 0])] [] 1 ?_
 unfold F4 at h
 refine cq 8 [5,6] [.isl false (s_1.map aj),.fn 195 [.iptr (ac f_2.1) 0,.iptr (I f_2.2) 0]] 49 ?_
 obtain⟨r3,hr3,h⟩:=bS h
 refine oq 65 (I r3) rfl (ce rfl rfl (cS rfl rfl rfl (bA (bV rfl) (bA (HL (d7 (jg rfl) (d7 (jg rfl) lw))) dB)) (Z6 hr3) (.inr rfl) eb rfl rfl rfl)) ?_
 refine cq 3 [4] [B (decide (r3≥0))] 97 ?_
 obtain rfl:=sI h
 exact rP [B (decide (r3≥0))]
theorem QE {G:bR}:bQ G 194 zZ:=gT 2 0 (aJ QS bq) bX Tryz.func194 (fun a r h=>Us a.1 a.2 r h)
def IC:(Contract×Int)→List V:=cA aO (oA I)
def ID (r:Bool):V×List V:=(B r,[])
noncomputable def Gx :=aZ [false,false] IC ID fun x=>J8 x.1 x.2
theorem abG {c_1:Contract}{i_2:Int}{r}(h:J8 c_1 i_2=some r):Gx.F (IC (c_1,i_2))=some (ID r):=aH (aK bb (aI bz)) h
noncomputable def abI :=aF Tryz.f183
noncomputable def WN :=bW [(194,zZ)]
def abH (x:Contract×Int)(r:Bool):St→Prop:=QF WN Tryz.f183 [false,false] (IC x) (ID r)
theorem XB (c_1:Contract)(i_2:Int)(r:Bool)(h:J8 c_1 i_2=some r):bo WN Tryz.f183 [false,false] 0 (IC (c_1,i_2)) (ID r):=by
 show Run _ _ (abH (c_1,i_2) r) [.code abI] _
 refine rI 9 [(0,ac c_1),(1,I i_2)] [] 1 ?_
 unfold J8 at h
 refine ck 11 [6,7] [] [1,17] [] [.isl false (c_1.Clauses.map aj),.fn 195 [.hp 1 0 [] 2 0 0,.hp 17 0 [] 1 0 0]] [some ⟨0,2,[ac c_1]⟩,some ⟨0,1,[I i_2]⟩] 97 (by kernel_rfl) ?_
 obtain⟨r3,hr3,h⟩:=bS h
 refine oq 113 (B r3) rfl (ce rfl rfl (cS rfl rfl rfl (bA (bV rfl) (bA (HL (d7 (kU (path:=[]) rfl rfl bc rfl rfl) (d7 (kU (path:=[]) rfl rfl bc rfl rfl) lw))) dB)) (ZR hr3) (.inl rfl) eb rfl rfl rfl)) ?_
 refine cq 2 [4] [B r3] 129 ?_
 obtain rfl:=sI h
 exact rP [B r3]
theorem Vp {G:bR}:bQ G 183 Gx:=gT 2 0 (aJ QE bq) bX Tryz.func183 (fun a r h=>XB a.1 a.2 r h)
def IJ:(Duty×Duty)→List V:=cA ae (oA (fun x:Duty=>.iptr (ae x) 0))
def IK (r:Bool):V×List V:=(B r,[])
noncomputable def GA :=aZ [false,false] IJ IK fun x=>MI x.1 x.2
theorem abN {jd:Duty}{a_2:Duty}{r}(h:MI jd a_2=some r):GA.F (IJ (jd,a_2))=some (IK r):=aH (aK dH (aI (eW dH))) h
noncomputable def abP :=aF Tryz.f185
noncomputable def WP :=bW []
def abO (x:Duty×Duty)(r:Bool):St→Prop:=QF WP Tryz.f185 [false,false] (IJ x) (IK r)
theorem XE (jd:Duty)(a_2:Duty)(r:Bool)(h:MI jd a_2=some r):bo WP Tryz.f185 [false,false] 0 (IJ (jd,a_2)) (IK r):=by
 show Run _ _ (abO (jd,a_2) r) [.code abP] _
 refine rI 9 [(0,ae jd),(1,.iptr (ae a_2) 0)] [] 1 ?_
 unfold MI at h
 refine cq 14 [3] [B (jd.Clause==a_2.Clause)] 129 ?_
 obtain rfl:=sI h
 exact rP [B (jd.Clause==a_2.Clause)]
theorem Vs {G:bR}:bQ G 185 GA:=gT 2 0 bq bX Tryz.func185 (fun a r h=>XE a.1 a.2 r h)
def Dp:((List Duty)×Duty)→List V:=cA (fa ae) (oA (fun x:Duty=>(.fn 185 [.iptr (ae x) 0]:V)))
def Dq (r:Int):V×List V:=(I r,[])
noncomputable def Ai :=aZ [false,false] Dp Dq fun x=>Gb x.1 x.2
theorem Z8 {s_1:List Duty}{f_2:Duty}{r}(h:Gb s_1 f_2=some r):Ai.F (Dp (s_1,f_2))=some (Dq r):=aH (aK (bv dH) (aI (tc dH))) h
noncomputable def QY :=aF Tryz.f196
noncomputable def JD :=bW [(185,GA)]
def QX (x:(List Duty)×Duty)(r:Int):St→Prop:=QF JD Tryz.f196 [false,false] (Dp x) (Dq r)
theorem LQ (s_1:List Duty)(f_2:Duty):cX JD 0 (QX (s_1,f_2)) (cL (cL (cR (cL (cR QY))))) 0 (sh s_1 f_2) (fun u=>(sT 19 [] [] 1)) fun x3=>(sT 19 [(0,.isl false (s_1.map ae)),(1,.fn 185 [.iptr (ae f_2) 0]),(7,I (len s_1)),(8,I x3)] [] 1):=eI (xN s_1 f_2) fun {Q K} hK self ih x3 y h hr hn=>by
 unfold ml at h
 refine cq 5 [9] [B (decide (x3<(len s_1)))] 17 ?_
 refine sq h ?_ ?_<;>intro h
 ·refine aq 1 ?_
  refine cq 12 [5,11,12,13] [I x3,.fn 185 [.iptr (ae f_2) 0],.isl false (s_1.map ae),I x3] 97 ?_
  obtain⟨e4,he4,h⟩:=bS h
  refine oq 113 (.iptr (ae e4) 0) rfl (au rfl rfl rfl (aV rfl rfl rfl rfl he4)) ?_
  refine cq 1 [15] [ae e4] 129 ?_
  obtain⟨r5,hr5,h⟩:=bS h
  refine oq 145 (B r5) rfl (cP (abN hr5)) ?_
  refine aq 1 ?_
  refine sq h ?_ ?_<;>intro h
  ·refine cq 5 [4] [I x3] 177 ?_
   exact ca rfl (hr _ (ai h) _ (qp [I x3]))
  ·refine aq 1 ?_
   refine cq 5 [8] [I (az (x3+1))] 177 ?_
   refine dQ ?_
   exact rf [0,1,7,8] [] (ih _ _ h hr hn :)
 ·refine aq 1 ?_
  exact rf [] [] (hn _ (ai h) :) (hk:=hK)
theorem UA (s_1:List Duty)(f_2:Duty)(r:Int)(h:Gb s_1 f_2=some r):bo JD Tryz.f196 [false,false] 0 (Dp (s_1,f_2)) (Dq r):=by
 show Run _ _ (QX (s_1,f_2) r) [.code QY] _
 refine rI 19 [(0,.isl false (s_1.map ae)),(1,.fn 185 [.iptr (ae f_2) 0])] [] 1 ?_
 unfold Gb at h
 refine cq 8 [6] [.isl false (s_1.map ae)] 33 ?_
 refine oq 49 (I (len s_1)) rfl (br rfl rfl rfl (bC rfl)) ?_
 refine cq 3 [8] [I (0)] 65 ?_
 obtain⟨y6,hy6,hy61,hy62⟩:=bJ h
 refine cj rfl ?_
 refine rf [0,1,7,8] [] (LQ s_1 f_2 rfl 0 _ hy6 (fun r' e st hq=>by rw[hy61 r' e] at hq;exact hq) fun u6 hu=>?_)
 replace h:=hy62 u6 hu
 refine cq 4 [4] [I (-1)] 17 ?_
 obtain rfl:=sI h
 exact rP [I (-1)]
theorem QZ {G:bR}:bQ G 196 Ai:=gT 2 0 (aJ Vs bq) bX Tryz.func196 (fun a r h=>UA a.1 a.2 r h)
def C6:((List Duty)×Duty)→List V:=cA (fa ae) (oA (fun x:Duty=>(.fn 185 [.iptr (ae x) 0]:V)))
def C7 (r:Bool):V×List V:=(B r,[])
noncomputable def Aa :=aZ [false,false] C6 C7 fun x=>F5 x.1 x.2
theorem ZU {s_1:List Duty}{f_2:Duty}{r}(h:F5 s_1 f_2=some r):Aa.F (C6 (s_1,f_2))=some (C7 r):=aH (aK (bv dH) (aI (tc dH))) h
noncomputable def ZW :=aF Tryz.f184
noncomputable def QG :=bW [(196,Ai)]
def ZV (x:(List Duty)×Duty)(r:Bool):St→Prop:=QF QG Tryz.f184 [false,false] (C6 x) (C7 r)
theorem Ut (s_1:List Duty)(f_2:Duty)(r:Bool)(h:F5 s_1 f_2=some r):bo QG Tryz.f184 [false,false] 0 (C6 (s_1,f_2)) (C7 r):=by
 show Run _ _ (ZV (s_1,f_2) r) [.code ZW] _
 refine rI 9 [(0,.isl false (s_1.map ae)),(1,.fn 185 [.iptr (ae f_2) 0])] [] 1 ?_
 unfold F5 at h
 refine cq 8 [5,6] [.isl false (s_1.map ae),.fn 185 [.iptr (ae f_2) 0]] 49 ?_
 obtain⟨r3,hr3,h⟩:=bS h
 refine oq 65 (I r3) rfl (ce rfl rfl (cS rfl rfl rfl (bA (bV rfl) (bA (HL (d7 (jg rfl) lw)) dB)) (Z8 hr3) (.inr rfl) eb rfl rfl rfl)) ?_
 refine cq 3 [4] [B (decide (r3≥0))] 97 ?_
 obtain rfl:=sI h
 exact rP [B (decide (r3≥0))]
theorem QH {G:bR}:bQ G 184 Aa:=gT 2 0 (aJ QZ bq) bX Tryz.func184 (fun a r h=>Ut a.1 a.2 r h)
def IH:(Contract×State×Int)→List V:=cA aO (cA b9 (oA I))
def II (r:Bool):V×List V:=(B r,[])
noncomputable def Gz :=aZ [false,false,false] IH II fun x=>Ka x.1 x.2.1 x.2.2
theorem abM {c_1:Contract}{s_2:State}{i_3:Int}{r}(h:Ka c_1 s_2 i_3=some r):Gz.F (IH (c_1,s_2,i_3))=some (II r):=aH (aK bb (aK cZ (aI bz))) h
noncomputable def ju :=aF Tryz.f162
noncomputable def pt :=bW [(99,hI),(183,Gx),(184,Aa),(78,sQ)]
def gK (x:Contract×State×Int)(r:Bool):St→Prop:=QF pt Tryz.f162 [false,false,false] (IH x) (II r)
theorem XD (c_1:Contract)(s_2:State)(i_3:Int)(r:Bool)(h:Ka c_1 s_2 i_3=some r):bo pt Tryz.f162 [false,false,false] 0 (IH (c_1,s_2,i_3)) (II r):=by
 show Run _ _ (gK (c_1,s_2,i_3) r) [.code ju] _
 refine rI 114 [(0,ac c_1),(1,ak s_2),(2,I i_3)] [] 1 ?_
 unfold Ka at h
 refine ck 11 [3,4,9,10] [] [1,17] [] [.hp 1 0 [] 2 0 0,.hp 17 0 [] 5 0 0,.isl false (s_2.Duties.map ae),I i_3] [some ⟨0,2,[ac c_1]⟩,some ⟨0,5,[ak s_2]⟩] 97 (by kernel_rfl) ?_
 obtain⟨e4,he4,h⟩:=bS h
 refine oq 113 (.iptr (ae e4) 0) rfl (au rfl rfl rfl (aV rfl rfl rfl rfl he4)) ?_
 refine ck 11 [7,14,16] [] [129] [] [.hp 129 0 [] 4 0 0,I e4.Clause,.isl false (c_1.Clauses.map aj)] [some ⟨0,4,[ae e4]⟩] 225 (by kernel_rfl) ?_
 refine oq 241 (I (len c_1.Clauses)) rfl (br rfl rfl rfl (bC rfl)) ?_
 refine cq 1 [18] [I (az ((len c_1.Clauses) - 1))] 257 ?_
 obtain⟨r5,hr5,h⟩:=bS h
 refine oq 273 (B r5) rfl (cP (hC hr5)) ?_
 refine cq 2 [21] [B (!r5)] 305 ?_
 obtain⟨y6,hy6,hy61,hy62⟩:=bJ h
 have j6:∀u6,y6=.inr u6→Run pt 0 (gK (c_1,s_2,i_3) r) (.code (cR (cL (cR (cR ju))))::.code (cR (cR (cR ju)))::[]) (sT 114 [(2,I i_3),(3,.hp 1 0 [] 2 0 0),(4,.hp 2 0 [] 5 0 0),(7,.hp 3 0 [] 4 0 0),(38,B u6)] [⟨0,2,[ac c_1]⟩,⟨0,5,[ak s_2]⟩,⟨0,4,[ae e4]⟩] 4):=by
  intro u6 hu
  replace h:=hy62 u6 hu
  refine sq h ?_ ?_<;>intro h
  ·refine cq 4 [6] [B false] 20 ?_
   obtain rfl:=sI h
   exact rP [B false]
  ·refine aq 1 ?_
   refine aq 2 ?_
   refine eB [0,1,0,4,0,16,0,64,240,496,1008,2044,4095,8191,16383,32767,65535,131071,262143,524287,1048575,2097151,4194303,8388607,16777215,8388607,41943039,8388607,142606335,511705087,1048575999,2122317823,4294967295,8589934591,17179869183] rfl (by decide +kernel) ?_
   refine dq [3] [] (.hp 3 0 [] 4 0 2) rfl (al rfl rfl rfl) ?_
   refine dq [3] [] (I e4.Due) rfl (aY rfl rfl) ?_
   refine dq [3] [] (.hp 3 0 [] 4 0 1) rfl (al rfl rfl rfl) ?_
   refine dq [3] [] (I e4.Since) rfl (aY rfl rfl) ?_
   refine dq [1] [] (.hp 1 0 [] 2 0 1) rfl (al rfl rfl rfl) ?_
   refine dq [1] [] (.isl false (c_1.Clauses.map aj)) rfl (aY rfl rfl) ?_
   refine dq [3] [] (.hp 3 0 [] 4 0 0) rfl (al rfl rfl rfl) ?_
   refine dq [3] [] (I e4.Clause) rfl (aY rfl rfl) ?_
   obtain⟨e7,he7,h⟩:=bS h
   refine dq [] [] (.iptr (ao e7) 0) rfl (au rfl rfl rfl (aV rfl rfl rfl rfl he7)) ?_
   refine dq [] [] (.iptr (ao e7) 10) rfl (al rfl rfl rfl) ?_
   refine dq [] [] (I e7.Within) rfl (aY rfl rfl) ?_
   refine dk 3 [52,51,50] [B (e4.Due != (az (e4.Since+e7.Within))),B (e4.Due != (az (e4.Since+e7.Within))),I (az (e4.Since+e7.Within))] ?_
   obtain⟨y8,hy8,hy81,hy82⟩:=bJ h
   have j8:∀u8,y8=.inr u8→Run pt 0 (gK (c_1,s_2,i_3) r) (.code (cR (cL (cR (cR (cR ju)))))::.code (cR (cR (cR (cR ju))))::[]) (sT 114 [(2,I i_3),(3,.hp 1 0 [] 2 0 0),(4,.hp 2 0 [] 5 0 0),(7,.hp 3 0 [] 4 0 0),(73,B u8)] [⟨0,2,[ac c_1]⟩,⟨0,5,[ak s_2]⟩,⟨0,4,[ae e4]⟩] 4):=by
    intro u8 hu
    replace h:=hy82 u8 hu
    refine sq h ?_ ?_<;>intro h
    ·refine cq 4 [6] [B false] 20 ?_
     obtain rfl:=sI h
     exact rP [B false]
    ·refine aq 1 ?_
     refine cq 6 [74,76] [ac c_1,I e4.Clause] 52 ?_
     obtain⟨r9,hr9,h⟩:=bS h
     refine oq 68 (B r9) rfl (cP (abG hr9)) ?_
     refine cq 2 [79] [B (!r9)] 100 ?_
     obtain⟨y10,hy10,hy101,hy102⟩:=bJ h
     have j10:∀u10,y10=.inr u10→Run pt 0 (gK (c_1,s_2,i_3) r) (.code (cR (cL (cR (cR (cR (cR ju))))))::.code (cR (cR (cR (cR (cR ju)))))::[]) (sT 114 [(4,.hp 1 0 [] 5 0 0),(7,.hp 2 0 [] 4 0 0),(86,B u10)] [⟨0,5,[ak s_2]⟩,⟨0,4,[ae e4]⟩] 3):=by
      intro u10 hu
      replace h:=hy102 u10 hu
      refine sq h ?_ ?_<;>intro h
      ·refine cq 4 [6] [B false] 19 ?_
       obtain rfl:=sI h
       exact rP [B false]
      ·refine aq 1 ?_
       refine cq 12 [88,89] [I e4.Status,B (e4.Status==1)] 67 ?_
       refine sq h ?_ ?_<;>intro h
       ·refine cq 8 [96] [B (decide (e4.Due≥s_2.Day))] 163 ?_
        obtain⟨u11,hu11,h⟩:=lJ h
        have j11:Run pt 0 (gK (c_1,s_2,i_3) r) (.code (cR (cL (cR (cL (cR (cL (cR (cR (cR (cR (cR ju)))))))))))::.blk 0::.code (cR (cR (cR (cR (cR (cR ju))))))::[]) (sT 114 [(6,B u11)] [] 1):=by
         obtain rfl:=sI h
         exact rP [B u11]
        replace h:=hu11
        clear hu11
        refine sp 96 h rfl ?_ ?_<;>intro h
        ·refine cq 6 [6] [B (!s_2.Over)] 243 ?_
         subst h
         exact rf [6] [] (j11 :)
        ·refine cq 6 [6] [B false] 243 ?_
         subst h
         exact rf [6] [] (j11 :)
       ·refine cq 5 [101] [B (e4.Status==2)] 99 ?_
        refine sq h ?_ ?_<;>intro h
        ·refine cq 4 [6] [B true] 115 ?_
         obtain rfl:=sI h
         exact rP [B true]
        ·refine cq 5 [103] [B (e4.Status==3)] 131 ?_
         refine sq h ?_ ?_<;>intro h
         ·refine cq 9 [6] [B (decide (e4.Due<s_2.Day))] 227 ?_
          obtain rfl:=sI h
          exact rP [B (decide (e4.Due<s_2.Day))]
         ·refine cq 5 [110] [B (e4.Status==4)] 163 ?_
          refine sq h ?_ ?_<;>intro h
          ·refine cq 6 [6] [B s_2.Over] 211 ?_
           obtain rfl:=sI h
           exact rP [B s_2.Over]
          ·refine aq 1 ?_
           refine cq 5 [6] [B false] 179 ?_
           obtain rfl:=sI h
           exact rP [B false]
     have r10:∀r',y10=.inl r'→∀st,gK (c_1,s_2,i_3) r' st→(gK (c_1,s_2,i_3) r) st:=fun r' e st hq=>by rw[hy101 r' e] at hq;exact hq
     replace h:=hy10
     refine sp 79 h rfl ?_ ?_<;>intro h
     ·refine cq 3 [81,82] [.isl false (s_2.Duties.map ae),I i_3] 148 ?_
      obtain⟨s12,hs12,h⟩:=bS h
      refine oy 164 (.isl false (s12.map ae)) rfl (im rfl rfl rfl rfl (Li rfl rfl (fun y=>(sX y).1) rfl rfl hs12)) ?_
      refine cq 1 [84] [.fn 185 [.hp 3 0 [] 4 0 0]] 180 ?_
      obtain⟨r13,hr13,h⟩:=bS h
      refine oy 196 (B r13) rfl (ce rfl rfl (cS rfl rfl rfl (bA (bV rfl) (bA (HL (d7 (kU (path:=[]) rfl rfl bc rfl rfl) lw)) dB)) (ZU hr13) (.inl rfl) eb rfl rfl rfl)) ?_
      refine cq 2 [86] [B r13] 212 ?_
      exact rf [4,7,86] [2,3] (j10 _ (ai h) :)
     ·refine cq 8 [86] [B false] 212 ?_
      exact rf [4,7,86] [2,3] (j10 _ (ai h) :)
   have r8:∀r',y8=.inl r'→∀st,gK (c_1,s_2,i_3) r' st→(gK (c_1,s_2,i_3) r) st:=fun r' e st hq=>by rw[hy81 r' e] at hq;exact hq
   replace h:=hy8
   refine sp 52 h rfl ?_ ?_<;>intro h
   ·refine dk 21 [73,72,71,70,69,68,67,66,65,64,63,62,61,60,59,58,57,56,55,54,53] [B true,.und,.und,.und,.und,.und,.und,.und,.und,.und,.und,.und,.und,.und,.und,B true,B true,.und,.und,.und,.und] ?_
    refine de 564 rfl rfl ?_
    exact rf [2,3,4,7,73] [1,2,3] (j8 _ (ai h) :)
   ·refine dy [3] [] (.hp 3 0 [] 4 0 2) rfl (al rfl rfl rfl) ?_
    refine dy [3] [] (I e4.Due) rfl (aY rfl rfl) ?_
    obtain⟨r14,hr14,h⟩:=bS h
    refine dy [] [] (B r14) rfl (cP (tQ hr14)) ?_ (dE rfl rfl rfl rfl (bA (bV rfl) dB) (tQ hr14) (.inr rfl) rfl)
    refine dk 3 [58,57,56] [B (!r14),B (!r14),B (!r14)] ?_
    obtain⟨y15,hy15,hy151,hy152⟩:=bL h
    have j15:∀u15,y15=.inr u15→Run pt 0 (gK (c_1,s_2,i_3) r) (.code (cR (cL (cR (cR (cR ju)))))::.code (cR (cR (cR (cR ju))))::[]) (sT 114 [(2,I i_3),(3,.hp 1 0 [] 2 0 0),(4,.hp 2 0 [] 5 0 0),(7,.hp 3 0 [] 4 0 0),(73,B u15)] [⟨0,2,[ac c_1]⟩,⟨0,5,[ak s_2]⟩,⟨0,4,[ae e4]⟩] 4):=by
     intro u15 hu
     replace h:=hy152 u15 hu
     exact rf [2,3,4,7,73] [1,2,3] (j8 _ (ai h) :)
    have r15:∀r',y15=.inl r'→∀st,gK (c_1,s_2,i_3) r' st→(gK (c_1,s_2,i_3) r) st:=fun r' e st hq=>r8 r' (hy151 r' e) st hq
    replace h:=hy15
    refine sp 58 h rfl ?_ ?_<;>intro h
    ·refine dk 15 [73,72,71,70,69,68,67,66,65,64,63,62,61,60,59] [B true,.und,.und,.und,.und,.und,.und,.und,.und,.und,.und,.und,.und,.und,.und] ?_
     refine de 564 rfl rfl ?_
     exact rf [2,3,4,7,73] [1,2,3] (j15 _ (ai h) :)
    ·refine dk 3 [61,60,59] [B (decide (i_3>0)),B (decide (i_3>0)),I i_3] ?_
     obtain⟨y16,hy16,hy161,hy162⟩:=bL h
     have j16:∀u16,y16=.inr u16→Run pt 0 (gK (c_1,s_2,i_3) r) (.code (cR (cL (cR (cR (cR ju)))))::.code (cR (cR (cR (cR ju))))::[]) (sT 114 [(2,I i_3),(3,.hp 1 0 [] 2 0 0),(4,.hp 2 0 [] 5 0 0),(7,.hp 3 0 [] 4 0 0),(73,B u16)] [⟨0,2,[ac c_1]⟩,⟨0,5,[ak s_2]⟩,⟨0,4,[ae e4]⟩] 4):=by
      intro u16 hu
      replace h:=hy162 u16 hu
      exact rf [2,3,4,7,73] [1,2,3] (j15 _ (ai h) :)
     have r16:∀r',y16=.inl r'→∀st,gK (c_1,s_2,i_3) r' st→(gK (c_1,s_2,i_3) r) st:=fun r' e st hq=>r15 r' (hy161 r' e) st hq
     replace h:=hy16
     refine sp 61 h rfl ?_ ?_<;>intro h
     ·refine dy [3] [] (.hp 3 0 [] 4 0 1) rfl (al rfl rfl rfl) ?_
      refine dy [3] [] (I e4.Since) rfl (aY rfl rfl) ?_
      refine dy [2] [] (.hp 2 0 [] 5 0 2) rfl (al rfl rfl rfl) ?_
      refine dy [2] [] (.isl false (s_2.Duties.map ae)) rfl (aY rfl rfl) ?_
      refine dk 2 [67,66] [I (az (i_3 - 1)),I i_3] ?_
      obtain⟨e17,he17,h⟩:=bS h
      refine dy [] [] (.iptr (ae e17) 0) rfl (au rfl rfl rfl (aV rfl rfl rfl rfl he17)) ?_
      refine dy [] [] (.iptr (ae e17) 1) rfl (al rfl rfl rfl) ?_
      refine dy [] [] (I e17.Since) rfl (aY rfl rfl) ?_
      refine dk 3 [73,72,71] [B (decide (e4.Since<e17.Since)),B (decide (e4.Since<e17.Since)),B (decide (e4.Since<e17.Since))] ?_
      refine de 564 rfl rfl ?_
      exact rf [2,3,4,7,73] [1,2,3] (j16 _ (ai h) :)
     ·refine dk 12 [73,72,71,70,69,68,67,66,65,64,63,62] [B false,B false,.und,.und,.und,.und,.und,.und,.und,.und,.und,.und] ?_
      refine de 564 rfl rfl ?_
      exact rf [2,3,4,7,73] [1,2,3] (j16 _ (ai h) :)
 have r6:∀r',y6=.inl r'→∀st,gK (c_1,s_2,i_3) r' st→(gK (c_1,s_2,i_3) r) st:=fun r' e st hq=>by rw[hy61 r' e] at hq;exact hq
 replace h:=hy6
 refine sp 21 h rfl ?_ ?_<;>intro h
 ·refine cq 18 [38] [B true] 577 ?_
  exact rf [2,3,4,7,38] [1,17,129] (j6 _ (ai h) :)
 ·refine cq 4 [23,25] [.isl false (c_1.Clauses.map aj),I e4.Clause] 369 ?_
  obtain⟨e18,he18,h⟩:=bS h
  refine oy 385 (.iptr (ao e18) 0) rfl (au rfl rfl rfl (aV rfl rfl rfl rfl he18)) ?_
  refine cq 5 [31] [B (e18.Kind != 1)] 465 ?_
  obtain⟨y19,hy19,hy191,hy192⟩:=bL h
  have j19:∀u19,y19=.inr u19→Run pt 0 (gK (c_1,s_2,i_3) r) (.code (cR (cL (cR (cR ju))))::.code (cR (cR (cR ju)))::[]) (sT 114 [(2,I i_3),(3,.hp 1 0 [] 2 0 0),(4,.hp 2 0 [] 5 0 0),(7,.hp 3 0 [] 4 0 0),(38,B u19)] [⟨0,2,[ac c_1]⟩,⟨0,5,[ak s_2]⟩,⟨0,4,[ae e4]⟩] 4):=by
   intro u19 hu
   replace h:=hy192 u19 hu
   exact rf [2,3,4,7,38] [1,2,3] (j6 _ (ai h) :)
  have r19:∀r',y19=.inl r'→∀st,gK (c_1,s_2,i_3) r' st→(gK (c_1,s_2,i_3) r) st:=fun r' e st hq=>r6 r' (hy191 r' e) st hq
  replace h:=hy19
  refine sp 31 h rfl ?_ ?_<;>intro h
  ·refine cq 8 [38] [B true] 577 ?_
   exact rf [2,3,4,7,38] [1,17,129] (j19 _ (ai h) :)
  ·refine cq 4 [33,35] [I e4.Since,I s_2.Day] 529 ?_
   obtain⟨r20,hr20,h⟩:=bS h
   refine oy 545 (B r20) rfl (cP (hC hr20)) ?_
   refine cq 3 [38] [B (!r20)] 577 ?_
   exact rf [2,3,4,7,38] [1,17,129] (j19 _ (ai h) :)
theorem Vr {G:bR}:bQ G 162 Gz:=gT 3 0 (aJ ip (aJ Vp (aJ QH (aJ Bb bq)))) bX Tryz.func162 (fun a r h=>XD a.1 a.2.1 a.2.2 r h)
def Iw:Int→List V:=oA I
def Ix (r:Bool):V×List V:=(B r,[])
noncomputable def Gv :=aZ [false] Iw Ix fun x=>MH x
theorem abA {x_1:Int}{r}(h:MH x_1=some r):Gv.F (Iw x_1)=some (Ix r):=aH (aI bz) h
noncomputable def abC :=aF Tryz.f164
noncomputable def WL :=bW [(99,hI)]
def abB (x:Int)(r:Bool):St→Prop:=QF WL Tryz.f164 [false] (Iw x) (Ix r)
theorem Xy (x_1:Int)(r:Bool)(h:MH x_1=some r):bo WL Tryz.f164 [false] 0 (Iw x_1) (Ix r):=by
 show Run _ _ (abB x_1 r) [.code abC] _
 refine rI 5 [(0,I x_1)] [] 1 ?_
 unfold MH at h
 refine cq 7 [3] [I x_1] 33 ?_
 obtain⟨r2,hr2,h⟩:=bS h
 refine oq 49 (B r2) rfl (cP (hC hr2)) ?_
 refine cq 2 [2] [B r2] 65 ?_
 obtain rfl:=sI h
 exact rP [B r2]
theorem Vn {G:bR}:bQ G 164 Gv:=gT 1 0 (aJ ip bq) bX Tryz.func164 (fun a r h=>Xy a r h)
def IU:Int→List V:=oA I
def IV (r:Bool):V×List V:=(B r,[])
noncomputable def GE :=aZ [false] IU IV fun x=>Ke x
theorem abV {b_1:Int}{r}(h:Ke b_1=some r):GE.F (IU b_1)=some (IV r):=aH (aI bz) h
noncomputable def abX :=aF Tryz.f163
noncomputable def WS :=bW [(164,Gv)]
def abW (x:Int)(r:Bool):St→Prop:=QF WS Tryz.f163 [false] (IU x) (IV r)
theorem XI (b_1:Int)(r:Bool)(h:Ke b_1=some r):bo WS Tryz.f163 [false] 0 (IU b_1) (IV r):=by
 show Run _ _ (abW b_1 r) [.code abX] _
 refine rI 6 [(0,I b_1)] [] 1 ?_
 unfold Ke at h
 refine cq 7 [3] [I b_1] 33 ?_
 obtain⟨r2,hr2,h⟩:=bS h
 refine oq 49 (B r2) rfl (cP (abA hr2)) ?_
 refine cq 3 [2] [B (!r2)] 81 ?_
 obtain rfl:=sI h
 exact rP [B (!r2)]
theorem Vw {G:bR}:bQ G 163 GE:=gT 1 0 (aJ Vn bq) bX Tryz.func163 (fun a r h=>XI a r h)
def Dr:((List Int)×Unit)→List V:=cA (fa I) (oA (fun x:Unit=>(.fn 163 []:V)))
def Ds (r:Int):V×List V:=(I r,[])
noncomputable def Aj :=aZ [false,false] Dr Ds fun x=>Gc x.1 x.2
theorem Z9 {s_1:List Int}{f_2:Unit}{r}(h:Gc s_1 f_2=some r):Aj.F (Dr (s_1,f_2))=some (Ds r):=aH (aK (bv bz) (aI (MP ))) h
noncomputable def Q1 :=aF Tryz.f153
noncomputable def JE :=bW [(163,GE)]
def Q0 (x:(List Int)×Unit)(r:Int):St→Prop:=QF JE Tryz.f153 [false,false] (Dr x) (Ds r)
theorem LR (s_1:List Int)(f_2:Unit):cX JE 0 (Q0 (s_1,f_2)) (cL (cL (cR (cL (cR Q1))))) 0 (si s_1 f_2) (fun u=>(sT 19 [] [] 1)) fun x3=>(sT 19 [(0,.isl false (s_1.map I)),(1,.fn 163 []),(7,I (len s_1)),(8,I x3)] [] 1):=eI (xO s_1 f_2) fun {Q K} hK self ih x3 y h hr hn=>by
 unfold mm at h
 refine cq 5 [9] [B (decide (x3<(len s_1)))] 17 ?_
 refine sq h ?_ ?_<;>intro h
 ·refine aq 1 ?_
  refine cq 12 [5,11,12,13] [I x3,.fn 163 [],.isl false (s_1.map I),I x3] 97 ?_
  obtain⟨e4,he4,h⟩:=bS h
  refine oq 113 (.iptr (I e4) 0) rfl (au rfl rfl rfl (aV rfl rfl rfl rfl he4)) ?_
  refine cq 1 [15] [I e4] 129 ?_
  obtain⟨r5,hr5,h⟩:=bS h
  refine oq 145 (B r5) rfl (cP (abV hr5)) ?_
  refine aq 1 ?_
  refine sq h ?_ ?_<;>intro h
  ·refine cq 5 [4] [I x3] 177 ?_
   exact ca rfl (hr _ (ai h) _ (qp [I x3]))
  ·refine aq 1 ?_
   refine cq 5 [8] [I (az (x3+1))] 177 ?_
   refine dQ ?_
   exact rf [0,1,7,8] [] (ih _ _ h hr hn :)
 ·refine aq 1 ?_
  exact rf [] [] (hn _ (ai h) :) (hk:=hK)
theorem UB (s_1:List Int)(f_2:Unit)(r:Int)(h:Gc s_1 f_2=some r):bo JE Tryz.f153 [false,false] 0 (Dr (s_1,f_2)) (Ds r):=by
 show Run _ _ (Q0 (s_1,f_2) r) [.code Q1] _
 refine rI 19 [(0,.isl false (s_1.map I)),(1,.fn 163 [])] [] 1 ?_
 unfold Gc at h
 refine cq 8 [6] [.isl false (s_1.map I)] 33 ?_
 refine oq 49 (I (len s_1)) rfl (br rfl rfl rfl (bC rfl)) ?_
 refine cq 3 [8] [I (0)] 65 ?_
 obtain⟨y6,hy6,hy61,hy62⟩:=bJ h
 refine cj rfl ?_
 refine rf [0,1,7,8] [] (LR s_1 f_2 rfl 0 _ hy6 (fun r' e st hq=>by rw[hy61 r' e] at hq;exact hq) fun u6 hu=>?_)
 replace h:=hy62 u6 hu
 refine cq 4 [4] [I (-1)] 17 ?_
 obtain rfl:=sI h
 exact rP [I (-1)]
theorem Q2 {G:bR}:bQ G 153 Aj:=gT 2 0 (aJ Vw bq) bX Tryz.func153 (fun a r h=>UB a.1 a.2 r h)
def C8:((List Int)×Unit)→List V:=cA (fa I) (oA (fun x:Unit=>(.fn 163 []:V)))
def C9 (r:Bool):V×List V:=(B r,[])
noncomputable def Ab :=aZ [false,false] C8 C9 fun x=>F6 x.1 x.2
theorem ZX {s_1:List Int}{f_2:Unit}{r}(h:F6 s_1 f_2=some r):Ab.F (C8 (s_1,f_2))=some (C9 r):=aH (aK (bv bz) (aI (MP ))) h
noncomputable def ZZ :=aF Tryz.f115
noncomputable def QI :=bW [(153,Aj)]
def ZY (x:(List Int)×Unit)(r:Bool):St→Prop:=QF QI Tryz.f115 [false,false] (C8 x) (C9 r)
theorem Uu (s_1:List Int)(f_2:Unit)(r:Bool)(h:F6 s_1 f_2=some r):bo QI Tryz.f115 [false,false] 0 (C8 (s_1,f_2)) (C9 r):=by
 show Run _ _ (ZY (s_1,f_2) r) [.code ZZ] _
 refine rI 9 [(0,.isl false (s_1.map I)),(1,.fn 163 [])] [] 1 ?_
 unfold F6 at h
 refine cq 8 [5,6] [.isl false (s_1.map I),.fn 163 []] 49 ?_
 obtain⟨r3,hr3,h⟩:=bS h
 refine oq 65 (I r3) rfl (cP (Z9 hr3)) ?_
 refine cq 3 [4] [B (decide (r3≥0))] 97 ?_
 obtain rfl:=sI h
 exact rP [B (decide (r3≥0))]
theorem QJ {G:bR}:bQ G 115 Ab:=gT 2 0 (aJ Q2 bq) bX Tryz.func115 (fun a r h=>Uu a.1 a.2 r h)
def IP:(Contract×State)→List V:=cA aO (oA b9)
def IQ (r:Bool):V×List V:=(B r,[])
noncomputable def GC :=aZ [false,false] IP IQ fun x=>Kc x.1 x.2
theorem abR {c_1:Contract}{s_2:State}{r}(h:Kc c_1 s_2=some r):GC.F (IP (c_1,s_2))=some (IQ r):=aH (aK bb (aI cZ)) h
noncomputable def oo :=aF Tryz.f127
noncomputable def tR :=bW [(101,sP),(78,sQ),(162,Gz),(115,Ab),(161,yX),(158,GB),(159,Ac)]
def kd (x:Contract×State)(r:Bool):St→Prop:=QF tR Tryz.f127 [false,false] (IP x) (IQ r)
theorem NV (c_1:Contract)(s_2:State):cX tR 0 (kd (c_1,s_2)) (cL (cL (cR (cL (cR (cR (cR (cR oo)))))))) 0 (oT c_1 s_2) (fun u=>(sT 60 [(3,.hp 1 0 [] 5 0 0)] [⟨0,5,[ak s_2]⟩] 2)) fun x7=>(sT 60 [(2,.hp 1 0 [] 2 0 0),(3,.hp 2 0 [] 5 0 0),(46,I (len s_2.Duties)),(47,I x7)] [⟨0,2,[ac c_1]⟩,⟨0,5,[ak s_2]⟩] 3):=eI (E5 c_1 s_2) fun {Q K} hK self ih x7 y h hr hn=>by
 unfold lX at h
 refine cq 5 [48] [B (decide (x7<(len s_2.Duties)))] 19 ?_
 refine sq h ?_ ?_<;>intro h
 ·refine aq 1 ?_
  refine cq 12 [50,51,52] [ac c_1,ak s_2,I x7] 99 ?_
  obtain⟨r8,hr8,h⟩:=bS h
  refine oq 115 (B r8) rfl (cP (abM hr8)) ?_
  refine cq 2 [54] [B (!r8)] 131 ?_
  refine sq h ?_ ?_<;>intro h
  ·refine cq 4 [4] [B false] 147 ?_
   exact ca rfl (hr _ (ai h) _ (qp [B false]))
  ·refine aq 1 ?_
   refine cq 5 [47] [I (az (x7+1))] 163 ?_
   refine dQ ?_
   exact rf [2,3,46,47] [1,2] (ih _ _ h hr hn :)
 ·refine aq 1 ?_
  exact rf [3] [2] (hn _ (ai h) :) (hk:=hK)
theorem XG (c_1:Contract)(s_2:State)(r:Bool)(h:Kc c_1 s_2=some r):bo tR Tryz.f127 [false,false] 0 (IP (c_1,s_2)) (IQ r):=by
 show Run _ _ (kd (c_1,s_2) r) [.code oo] _
 refine rI 60 [(0,ac c_1),(1,ak s_2)] [] 1 ?_
 unfold Kc at h
 refine ck 9 [2,3,7] [] [1,17] [] [.hp 1 0 [] 2 0 0,.hp 17 0 [] 5 0 0,ac c_1] [some ⟨0,2,[ac c_1]⟩,some ⟨0,5,[ak s_2]⟩] 65 (by kernel_rfl) ?_
 obtain⟨r3,hr3,h⟩:=bS h
 refine oq 81 (.hs 65 0 [] 1 0 (r3.map str).length) rfl (cP (Iu hr3)) ?_
 refine ck 1 [5] [] [81] [] [.hp 81 0 [] 1 0 0] [some ⟨0,1,[.isl true []]⟩] 97 (by kernel_rfl) ?_
 refine eM 81 [.usl 1 (([]).map str)] rfl rfl (aD (.nil _) dU) ?_
 refine o0 113 rfl rfl (gy rfl rfl (fu (path:=[]) (pl:=false) (e':=.usl 1 (r3.map str)) (es2':=[.usl 1 (r3.map str)]) rfl (eR rfl (cQ rfl rfl)) rfl rfl rfl bc rfl rfl rfl rfl rfl d9 2 rfl)) ?_
 refine cq 6 [10] [I s_2.Day] 145 ?_
 obtain⟨r4,hr4,h⟩:=bS h
 refine oq 161 (B r4) rfl (cP (tQ hr4)) ?_
 refine cq 2 [13] [B (!r4)] 193 ?_
 obtain⟨y5,hy5,hy51,hy52⟩:=bJ h
 have j5:∀u5,y5=.inr u5→Run tR 0 (kd (c_1,s_2) r) (.code (cR (cL (cR (cR oo))))::.code (cR (cR (cR oo)))::[]) (sT 60 [(2,.hp 1 0 [] 2 0 0),(3,.hp 2 0 [] 5 0 0),(24,B u5)] [⟨0,2,[ac c_1]⟩,⟨0,5,[ak s_2]⟩] 3):=by
  intro u5 hu
  replace h:=hy52 u5 hu
  refine sq h ?_ ?_<;>intro h
  ·refine cq 4 [4] [B false] 19 ?_
   obtain rfl:=sI h
   exact rP [B false]
  ·refine aq 1 ?_
   refine cq 5 [26] [.isl false (s_2.Duties.map ae)] 35 ?_
   refine oq 51 (I (len s_2.Duties)) rfl (br rfl rfl rfl (bC rfl)) ?_
   refine cq 2 [29] [B (decide ((len s_2.Duties)>24))] 83 ?_
   obtain⟨y6,hy6,hy61,hy62⟩:=bJ h
   have j6:∀u6,y6=.inr u6→Run tR 0 (kd (c_1,s_2) r) (.code (cR (cL (cR (cR (cR oo)))))::.code (cR (cR (cR (cR oo))))::[]) (sT 60 [(2,.hp 1 0 [] 2 0 0),(3,.hp 2 0 [] 5 0 0),(43,B u6)] [⟨0,2,[ac c_1]⟩,⟨0,5,[ak s_2]⟩] 3):=by
    intro u6 hu
    replace h:=hy62 u6 hu
    refine sq h ?_ ?_<;>intro h
    ·refine cq 4 [4] [B false] 19 ?_
     obtain rfl:=sI h
     exact rP [B false]
    ·refine aq 1 ?_
     refine cq 5 [45] [.isl false (s_2.Duties.map ae)] 35 ?_
     refine oq 51 (I (len s_2.Duties)) rfl (br rfl rfl rfl (bC rfl)) ?_
     refine cq 3 [47] [I (0)] 67 ?_
     obtain⟨y9,hy9,hy91,hy92⟩:=bJ h
     refine cj rfl ?_
     refine rf [2,3,46,47] [1,2] (NV c_1 s_2 rfl 0 _ hy9 (fun r' e st hq=>by rw[hy91 r' e] at hq;exact hq) fun u9 hu=>?_)
     replace h:=hy92 u9 hu
     refine cq 4 [57] [.isl false (s_2.Balances.map I)] 34 ?_
     obtain⟨r10,hr10,h⟩:=bS h
     refine oq 50 (B r10) rfl (cP (ZX hr10)) ?_
     refine cq 3 [4] [B (!r10)] 82 ?_
     obtain rfl:=sI h
     exact rP [B (!r10)]
   have r6:∀r',y6=.inl r'→∀st,kd (c_1,s_2) r' st→(kd (c_1,s_2) r) st:=fun r' e st hq=>by rw[hy61 r' e] at hq;exact hq
   replace h:=hy6
   refine sp 29 h rfl ?_ ?_<;>intro h
   ·refine cq 15 [43] [B true] 307 ?_
    exact rf [2,3,43] [1,2] (j6 _ (ai h) :)
   ·refine cq 2 [31] [.isl false (s_2.Balances.map I)] 115 ?_
    refine oy 131 (I (len s_2.Balances)) rfl (br rfl rfl rfl (bC rfl)) ?_
    refine cq 2 [34] [.isl false (c_1.Parties.map str)] 163 ?_
    refine oy 179 (I (len c_1.Parties)) rfl (br rfl rfl rfl (bC rfl)) ?_
    refine cq 3 [38] [B ((len s_2.Balances) != (len c_1.Parties))] 227 ?_
    obtain⟨y11,hy11,hy111,hy112⟩:=bL h
    have j11:∀u11,y11=.inr u11→Run tR 0 (kd (c_1,s_2) r) (.code (cR (cL (cR (cR (cR oo)))))::.code (cR (cR (cR (cR oo))))::[]) (sT 60 [(2,.hp 1 0 [] 2 0 0),(3,.hp 2 0 [] 5 0 0),(43,B u11)] [⟨0,2,[ac c_1]⟩,⟨0,5,[ak s_2]⟩] 3):=by
     intro u11 hu
     replace h:=hy112 u11 hu
     exact rf [2,3,43] [1,2] (j6 _ (ai h) :)
    have r11:∀r',y11=.inl r'→∀st,kd (c_1,s_2) r' st→(kd (c_1,s_2) r) st:=fun r' e st hq=>r6 r' (hy111 r' e) st hq
    replace h:=hy11
    refine sp 38 h rfl ?_ ?_<;>intro h
    ·refine cq 6 [43] [B true] 307 ?_
     exact rf [2,3,43] [1,2] (j11 _ (ai h) :)
    ·refine cq 2 [40] [.isl false (s_2.Balances.map I)] 259 ?_
     obtain⟨r12,hr12,h⟩:=bS h
     refine oy 275 (I r12) rfl (cP (YP hr12)) ?_
     refine cq 3 [43] [B (r12 != 0)] 307 ?_
     exact rf [2,3,43] [1,2] (j11 _ (ai h) :)
 have r5:∀r',y5=.inl r'→∀st,kd (c_1,s_2) r' st→(kd (c_1,s_2) r) st:=fun r' e st hq=>by rw[hy51 r' e] at hq;exact hq
 replace h:=hy5
 refine sp 13 h rfl ?_ ?_<;>intro h
 ·refine cq 12 [24] [B true] 369 ?_
  exact rf [2,3,24] [1,17] (j5 _ (ai h) :)
 ·refine cq 2 [15] [.isl false (s_2.Facts.map str)] 225 ?_
  obtain⟨r13,hr13,h⟩:=bS h
  refine oy 241 (B r13) rfl (cP (abQ hr13)) ?_
  refine cq 3 [19] [B (!r13)] 289 ?_
  obtain⟨y14,hy14,hy141,hy142⟩:=bL h
  have j14:∀u14,y14=.inr u14→Run tR 0 (kd (c_1,s_2) r) (.code (cR (cL (cR (cR oo))))::.code (cR (cR (cR oo)))::[]) (sT 60 [(2,.hp 1 0 [] 2 0 0),(3,.hp 2 0 [] 5 0 0),(24,B u14)] [⟨0,2,[ac c_1]⟩,⟨0,5,[ak s_2]⟩] 3):=by
   intro u14 hu
   replace h:=hy142 u14 hu
   exact rf [2,3,24] [1,2] (j5 _ (ai h) :)
  have r14:∀r',y14=.inl r'→∀st,kd (c_1,s_2) r' st→(kd (c_1,s_2) r) st:=fun r' e st hq=>r5 r' (hy141 r' e) st hq
  replace h:=hy14
  refine sp 19 h rfl ?_ ?_<;>intro h
  ·refine cq 6 [24] [B true] 369 ?_
   exact rf [2,3,24] [1,17] (j14 _ (ai h) :)
  ·refine cq 3 [21,22] [.isl false (s_2.Facts.map str),.fn 160 [.hp 81 0 [] 1 0 0]] 337 ?_
   obtain⟨r15,hr15,h⟩:=bS h
   refine oy 353 (B r15) rfl (ce rfl rfl (cS rfl rfl rfl (bA (bV rfl) (bA (HL (d7 (kU (path:=[]) rfl rfl bc rfl (uj (cf fk))) lw)) dB)) (Z0 hr15) (.inl rfl) eb rfl rfl rfl)) ?_
   refine cq 2 [24] [B r15] 369 ?_
   exact rf [2,3,24] [1,17] (j14 _ (ai h) :)
theorem Vu {G:bR}:bQ G 127 GC:=gT 2 0 (aJ Ba (aJ Bb (aJ Vr (aJ QJ (aJ O8 (aJ Vt (aJ QL bq))))))) bX Tryz.func127 (fun a r h=>XG a.1 a.2 r h)
def H9:(Contract×State)→List V:=cA aO (oA b9)
def Ib (r:Bool):V×List V:=(B r,[])
noncomputable def Gh :=aZ [false,false] H9 Ib fun x=>Hc x.1 x.2
theorem abq {c_1:Contract}{s_2:State}{r}(h:Hc c_1 s_2=some r):Gh.F (H9 (c_1,s_2))=some (Ib r):=aH (aK bb (aI cZ)) h
noncomputable def WD :=aF Tryz.f77
noncomputable def NJ :=bW [(47,F2),(127,GC)]
def Ia (x:Contract×State)(r:Bool):St→Prop:=QF NJ Tryz.f77 [false,false] (H9 x) (Ib r)
theorem Xl (c_1:Contract)(s_2:State)(r:Bool)(h:Hc c_1 s_2=some r):bo NJ Tryz.f77 [false,false] 0 (H9 (c_1,s_2)) (Ib r):=by
 show Run _ _ (Ia (c_1,s_2) r) [.code WD] _
 refine rI 12 [(0,ac c_1),(1,ak s_2)] [] 1 ?_
 unfold Hc at h
 refine ck 9 [2,3,5] [] [1,17] [] [.hp 1 0 [] 2 0 0,.hp 17 0 [] 5 0 0,ac c_1] [some ⟨0,2,[ac c_1]⟩,some ⟨0,5,[ak s_2]⟩] 65 (by kernel_rfl) ?_
 obtain⟨r3,hr3,h⟩:=bS h
 refine oq 81 (B r3) rfl (cP (abp hr3)) ?_
 refine cq 1 [7] [B r3] 97 ?_
 obtain⟨y4,hy4,hy41,hy42⟩:=bJ h
 have j4:∀u4,y4=.inr u4→Run NJ 0 (Ia (c_1,s_2) r) (.code (cR (cR WD))::[]) (sT 12 [(4,B u4)] [] 1):=by
  intro u4 hu
  replace h:=hy42 u4 hu
  obtain rfl:=sI h
  exact rP [B u4]
 have r4:∀r',y4=.inl r'→∀st,Ia (c_1,s_2) r' st→(Ia (c_1,s_2) r) st:=fun r' e st hq=>by rw[hy41 r' e] at hq;exact hq
 replace h:=hy4
 refine sp 7 h rfl ?_ ?_<;>intro h
 ·refine cq 2 [8,9] [ac c_1,ak s_2] 129 ?_
  obtain⟨r5,hr5,h⟩:=bS h
  refine oy 145 (B r5) rfl (cP (abR hr5)) ?_
  refine cq 3 [4] [B r5] 177 ?_
  exact rf [4] [] (j4 _ (ai h) :)
 ·refine cq 6 [4] [B false] 177 ?_
  exact rf [4] [] (j4 _ (ai h) :)
theorem U4 {G:bR}:bQ G 77 Gh:=gT 2 0 (aJ T7 (aJ Vu bq)) bX Tryz.func77 (fun a r h=>Xl a.1 a.2 r h)
def Ii:(Contract×State×Int×aa)→List V:=cA aO (cA b9 (cA I (oA str)))
def Ij (r:Bool):V×List V:=(B r,[])
noncomputable def Gq :=aZ [false,false,false,false] Ii Ij fun x=>J2 x.1 x.2.1 x.2.2.1 x.2.2.2
theorem abt {c_1:Contract}{s_2:State}{aE:Int}{aA:aa}{r}(h:J2 c_1 s_2 aE aA=some r):Gq.F (Ii (c_1,s_2,aE,aA))=some (Ij r):=aH (aK bb (aK cZ (aK bz (aI ba)))) h
noncomputable def Ik :=aF Tryz.f59
noncomputable def ET :=bW [(77,Gh),(99,hI),(81,nQ)]
def om (x:Contract×State×Int×aa)(r:Bool):St→Prop:=QF ET Tryz.f59 [false,false,false,false] (Ii x) (Ij r)
theorem Xq (c_1:Contract)(s_2:State)(aE:Int)(aA:aa)(r:Bool)(h:J2 c_1 s_2 aE aA=some r):bo ET Tryz.f59 [false,false,false,false] 0 (Ii (c_1,s_2,aE,aA)) (Ij r):=by
 show Run _ _ (om (c_1,s_2,aE,aA) r) [.code Ik] _
 refine rI 29 [(0,ac c_1),(1,ak s_2),(2,I aE),(3,str aA)] [] 1 ?_
 unfold J2 at h
 refine ck 10 [4,5,9,10] [] [1,17] [] [.hp 1 0 [] 2 0 0,.hp 17 0 [] 5 0 0,ac c_1,ak s_2] [some ⟨0,2,[ac c_1]⟩,some ⟨0,5,[ak s_2]⟩] 81 (by kernel_rfl) ?_
 obtain⟨r5,hr5,h⟩:=bS h
 refine oq 97 (B r5) rfl (cP (abq hr5)) ?_
 refine cq 1 [12] [B r5] 113 ?_
 obtain⟨y6,hy6,hy61,hy62⟩:=bJ h
 have j6:∀u6,y6=.inr u6→Run ET 0 (om (c_1,s_2,aE,aA) r) (.code (cR (cR Ik))::[]) (sT 29 [(8,B u6)] [] 1):=by
  intro u6 hu
  replace h:=hy62 u6 hu
  obtain rfl:=sI h
  exact rP [B u6]
 have r6:∀r',y6=.inl r'→∀st,om (c_1,s_2,aE,aA) r' st→(om (c_1,s_2,aE,aA) r) st:=fun r' e st hq=>by rw[hy61 r' e] at hq;exact hq
 replace h:=hy6
 refine sp 12 h rfl ?_ ?_<;>intro h
 ·refine cq 5 [17] [B (!s_2.Over)] 193 ?_
  obtain⟨y7,hy7,hy71,hy72⟩:=bL h
  have j7:∀u7,y7=.inr u7→Run ET 0 (om (c_1,s_2,aE,aA) r) (.code (cR (cR Ik))::[]) (sT 29 [(8,B u7)] [] 1):=by
   intro u7 hu
   replace h:=hy72 u7 hu
   exact rf [8] [] (j6 _ (ai h) :)
  have r7:∀r',y7=.inl r'→∀st,om (c_1,s_2,aE,aA) r' st→(om (c_1,s_2,aE,aA) r) st:=fun r' e st hq=>r6 r' (hy71 r' e) st hq
  replace h:=hy7
  refine sp 17 h rfl ?_ ?_<;>intro h
  ·refine cq 3 [18,20] [I aE,.isl false (c_1.Parties.map str)] 241 ?_
   refine oy 257 (I (len c_1.Parties)) rfl (br rfl rfl rfl (bC rfl)) ?_
   refine cq 1 [22] [I (az ((len c_1.Parties) - 1))] 273 ?_
   obtain⟨r8,hr8,h⟩:=bS h
   refine oy 289 (B r8) rfl (cP (hC hr8)) ?_
   refine cq 2 [25] [B r8] 321 ?_
   obtain⟨y9,hy9,hy91,hy92⟩:=bL h
   have j9:∀u9,y9=.inr u9→Run ET 0 (om (c_1,s_2,aE,aA) r) (.code (cR (cR Ik))::[]) (sT 29 [(8,B u9)] [] 1):=by
    intro u9 hu
    replace h:=hy92 u9 hu
    exact rf [8] [] (j7 _ (ai h) :)
   have r9:∀r',y9=.inl r'→∀st,om (c_1,s_2,aE,aA) r' st→(om (c_1,s_2,aE,aA) r) st:=fun r' e st hq=>r7 r' (hy91 r' e) st hq
   replace h:=hy9
   refine sp 25 h rfl ?_ ?_<;>intro h
   ·refine cq 1 [26] [str aA] 337 ?_
    obtain⟨r10,hr10,h⟩:=bS h
    refine oy 353 (B r10) rfl (cP (wP hr10)) ?_
    refine cq 3 [8] [B r10] 385 ?_
    exact rf [8] [] (j9 _ (ai h) :)
   ·refine cq 5 [8] [B false] 385 ?_
    exact rf [8] [] (j9 _ (ai h) :)
  ·refine cq 13 [8] [B false] 385 ?_
   exact rf [8] [] (j7 _ (ai h) :)
 ·refine cq 18 [8] [B false] 385 ?_
  exact rf [8] [] (j6 _ (ai h) :)
theorem Vi {G:bR}:bQ G 59 Gq:=gT 4 0 (aJ U4 (aJ ip (aJ qa bq))) bX Tryz.func59 (fun a r h=>Xq a.1 a.2.1 a.2.2.1 a.2.2.2 r h)
def CX:(List aa)→List V:=oA (fa str)
def CY (r:(List aa)):V×List V:=(.usl 1 (r.map str),[])
noncomputable def zW :=aZ [false] CX CY fun x=>zV x
theorem QA {s_1:List aa}{r}(h:zV s_1=some r):zW.F (CX s_1)=some (CY r):=aH (aI (bv ba)) h
noncomputable def ZP :=aF Tryz.f150
noncomputable def Qz :=bW []
def ZO (x:(List aa))(r:(List aa)):St→Prop:=QF Qz Tryz.f150 [false] (CX x) (CY r)
theorem Uq (s_1:List aa)(r:(List aa))(h:zV s_1=some r):bo Qz Tryz.f150 [false] 0 (CX s_1) (CY r):=by
 show Run _ _ (ZO s_1 r) [.code ZP] _
 refine rI 8 [(0,.isl false (s_1.map str))] [] 1 ?_
 unfold zV at h
 refine cq 8 [3] [.isl false (s_1.map str)] 33 ?_
 refine nq (f:=str) (xs:=s_1) true 49 rfl h rfl rfl rfl rfl ?_ ?_<;>intro h
 ·refine aq 1 ?_
  refine pc rfl rfl (fun _=>?_) (fun hb=>by cases hb)
  refine cq 4 [2] [.isl true []] 65 ?_
  refine xn 2 0 1 81 (.hs 65 0 [] 1 0 0) rfl rfl rfl rfl rfl ?_
  obtain rfl:=sI h
  exact ca rfl ⟨_,fin (vs:=[.hs 65 0 [] 1 0 0]) rfl (fq (eR rfl (cQ (k:=0) (es:=[]) rfl rfl)) eA) rfl (eS fy),ft⟩
 ·refine aq 1 ?_
  refine pc rfl rfl (fun hb=>by cases hb) (fun _=>?_)
  refine aq 3 ?_
  refine oq 65 (.hs 49 0 [] 1 0 0) rfl (fx rfl (ow (f:=I) (xs:=[]) (z:=str ([])) (es:=[]) (ws:=[]) rfl rfl rfl (by decide) rfl (eq rfl) rfl)) ?_
  refine cq 1 [6] [.isl false (s_1.map str)] 81 ?_
  obtain⟨a2,ha2,h⟩:=bS h
  refine oq 97 (.hs 81 0 [] 1 0 (a2.map str).length) rfl (kJ rfl rfl rfl rfl rfl (oU (path:=[]) (es0:=[]) (f:=str) (xs:=([]:List aa)) (ys:=s_1) rfl rfl BB rfl rfl rfl rfl rfl (by decide) js ha2 rfl qC)) ?_
  refine cq 2 [2] [.hs 81 0 [] 1 0 (a2.map str).length] 113 ?_
  obtain rfl:=sI h
  exact ca rfl ⟨_,fin (vs:=[.hs 81 0 [] 1 0 (a2.map str).length]) rfl (fq (eR rfl (cQ rfl rfl)) eA) rfl (eS fy),ft⟩
theorem QB {G:bR}:bQ G 150 zW:=gT 1 0 bq bX Tryz.func150 (fun a r h=>Uq a r h)
def CT:(List Duty)→List V:=oA (fa ae)
def CU (r:(List Duty)):V×List V:=(.usl 4 (r.map ae),[])
noncomputable def zS :=aZ [false] CT CU fun x=>zR x
theorem Qu {s_1:List Duty}{r}(h:zR s_1=some r):zS.F (CT s_1)=some (CU r):=aH (aI (bv dH)) h
noncomputable def ZL :=aF Tryz.f151
noncomputable def Qt :=bW []
def ZK (x:(List Duty))(r:(List Duty)):St→Prop:=QF Qt Tryz.f151 [false] (CT x) (CU r)
theorem Um (s_1:List Duty)(r:(List Duty))(h:zR s_1=some r):bo Qt Tryz.f151 [false] 0 (CT s_1) (CU r):=by
 show Run _ _ (ZK s_1 r) [.code ZL] _
 refine rI 8 [(0,.isl false (s_1.map ae))] [] 1 ?_
 unfold zR at h
 refine cq 8 [3] [.isl false (s_1.map ae)] 33 ?_
 refine nq (f:=ae) (xs:=s_1) true 49 rfl h rfl rfl rfl rfl ?_ ?_<;>intro h
 ·refine aq 1 ?_
  refine pc rfl rfl (fun _=>?_) (fun hb=>by cases hb)
  refine cq 4 [2] [.isl true []] 65 ?_
  refine xn 2 0 4 81 (.hs 65 0 [] 4 0 0) rfl rfl rfl rfl rfl ?_
  obtain rfl:=sI h
  exact ca rfl ⟨_,fin (vs:=[.hs 65 0 [] 4 0 0]) rfl (fq (eR rfl (cQ (k:=0) (es:=[]) rfl rfl)) eA) rfl (eS fy),ft⟩
 ·refine aq 1 ?_
  refine pc rfl rfl (fun hb=>by cases hb) (fun _=>?_)
  refine aq 3 ?_
  refine oq 65 (.hs 49 0 [] 4 0 0) rfl (fx rfl (ow (f:=I) (xs:=[]) (z:=.agg [I (0),I (0),I (0),I (0)]) (es:=[]) (ws:=[]) rfl rfl rfl (by decide) rfl (eq rfl) rfl)) ?_
  refine cq 1 [6] [.isl false (s_1.map ae)] 81 ?_
  obtain⟨a2,ha2,h⟩:=bS h
  refine oq 97 (.hs 81 0 [] 4 0 (a2.map ae).length) rfl (kJ rfl rfl rfl rfl rfl (oU (path:=[]) (es0:=[]) (f:=ae) (xs:=([]:List Duty)) (ys:=s_1) rfl rfl BB rfl rfl rfl rfl rfl (by decide) sX ha2 rfl qC)) ?_
  refine cq 2 [2] [.hs 81 0 [] 4 0 (a2.map ae).length] 113 ?_
  obtain rfl:=sI h
  exact ca rfl ⟨_,fin (vs:=[.hs 81 0 [] 4 0 (a2.map ae).length]) rfl (fq (eR rfl (cQ rfl rfl)) eA) rfl (eS fy),ft⟩
theorem Qv {G:bR}:bQ G 151 zS:=gT 1 0 bq bX Tryz.func151 (fun a r h=>Um a r h)
def CV:(List Int)→List V:=oA (fa I)
def CW (r:(List Int)):V×List V:=(.usl 1 (r.map I),[])
noncomputable def zU :=aZ [false] CV CW fun x=>zT x
theorem Qx {s_1:List Int}{r}(h:zT s_1=some r):zU.F (CV s_1)=some (CW r):=aH (aI (bv bz)) h
noncomputable def ZN :=aF Tryz.f152
noncomputable def Qw :=bW []
def ZM (x:(List Int))(r:(List Int)):St→Prop:=QF Qw Tryz.f152 [false] (CV x) (CW r)
theorem Uo (s_1:List Int)(r:(List Int))(h:zT s_1=some r):bo Qw Tryz.f152 [false] 0 (CV s_1) (CW r):=by
 show Run _ _ (ZM s_1 r) [.code ZN] _
 refine rI 8 [(0,.isl false (s_1.map I))] [] 1 ?_
 unfold zT at h
 refine cq 8 [3] [.isl false (s_1.map I)] 33 ?_
 refine nq (f:=I) (xs:=s_1) true 49 rfl h rfl rfl rfl rfl ?_ ?_<;>intro h
 ·refine aq 1 ?_
  refine pc rfl rfl (fun _=>?_) (fun hb=>by cases hb)
  refine cq 4 [2] [.isl true []] 65 ?_
  refine xn 2 0 1 81 (.hs 65 0 [] 1 0 0) rfl rfl rfl rfl rfl ?_
  obtain rfl:=sI h
  exact ca rfl ⟨_,fin (vs:=[.hs 65 0 [] 1 0 0]) rfl (fq (eR rfl (cQ (k:=0) (es:=[]) rfl rfl)) eA) rfl (eS fy),ft⟩
 ·refine aq 1 ?_
  refine pc rfl rfl (fun hb=>by cases hb) (fun _=>?_)
  refine aq 3 ?_
  refine oq 65 (.hs 49 0 [] 1 0 0) rfl (fx rfl (ow (f:=I) (xs:=[]) (z:=I (0)) (es:=[]) (ws:=[]) rfl rfl rfl (by decide) rfl (eq rfl) rfl)) ?_
  refine cq 1 [6] [.isl false (s_1.map I)] 81 ?_
  obtain⟨a2,ha2,h⟩:=bS h
  refine oq 97 (.hs 81 0 [] 1 0 (a2.map I).length) rfl (kJ rfl rfl rfl rfl rfl (oU (path:=[]) (es0:=[]) (f:=I) (xs:=([]:List Int)) (ys:=s_1) rfl rfl BB rfl rfl rfl rfl rfl (by decide) XL ha2 rfl qC)) ?_
  refine cq 2 [2] [.hs 81 0 [] 1 0 (a2.map I).length] 113 ?_
  obtain rfl:=sI h
  exact ca rfl ⟨_,fin (vs:=[.hs 81 0 [] 1 0 (a2.map I).length]) rfl (fq (eR rfl (cQ rfl rfl)) eA) rfl (eS fy),ft⟩
theorem Qy {G:bR}:bQ G 152 zU:=gT 1 0 bq bX Tryz.func152 (fun a r h=>Uo a r h)
def BL:State→List V:=oA b9
def BM (r:State):V×List V:=(.agg [I r.Day,.usl 1 (r.Facts.map str),.usl 4 (r.Duties.map ae),.usl 1 (r.Balances.map I),B r.Over],[])
noncomputable def yU :=aZ [false] BL BM fun x=>yT x
theorem O2 {s_1:State}{r}(h:yT s_1=some r):yU.F (BL s_1)=some (BM r):=aH (aI cZ) h
noncomputable def YL :=aF Tryz.f109
noncomputable def O1 :=bW [(150,zW),(151,zS),(152,zU)]
def YK (x:State)(r:State):St→Prop:=QF O1 Tryz.f109 [false] (BL x) (BM r)
theorem TD (s_1:State)(r:State)(h:yT s_1=some r):bo O1 Tryz.f109 [false] 0 (BL s_1) (BM r):=by
 show Run _ _ (YK s_1 r) [.code YL] _
 refine rI 16 [(0,ak s_1)] [] 1 ?_
 unfold yT at h
 refine ck 4 [1,2] [] [1,17] [] [.hp 1 0 [] 5 0 0,.hp 17 0 [] 5 0 0] [some ⟨0,5,[ak s_1]⟩,some ⟨0,5,[.agg [I (0),.isl true [],.isl true [],.isl true [],B false]]⟩] 33 (by kernel_rfl) ?_
 refine eM 17 [.agg [I (0),.usl 1 (([]).map str),.usl 4 (([]).map ae),.usl 1 (([]).map I),B false]] rfl rfl (aD (fF (aD (.refl _) (aD (.nil _) (aD (.nil _) (aD (.nil _) (aD (.refl _) dU)))))) dU) ?_
 refine aq 2 ?_
 refine eB [0,1,3,0,8,31,0,64,255,223,1023,2047,4095,8191,16383] rfl (by decide +kernel) ?_
 refine dq [1] [] (.hp 1 0 [] 5 0 1) rfl (al rfl rfl rfl) ?_
 refine dq [1] [] (.isl false (s_1.Facts.map str)) rfl (aY rfl rfl) ?_
 obtain⟨r2,hr2,h⟩:=bS h
 refine dq [] [] (.hs 65 0 [] 1 0 (r2.map str).length) rfl (cP (QA hr2)) ?_ (dE rfl rfl rfl rfl (bA (bV rfl) dB) (QA hr2) (.inr rfl) rfl)
 refine dq [1] [] (.hp 1 0 [] 5 0 2) rfl (al rfl rfl rfl) ?_
 refine dq [1] [] (.isl false (s_1.Duties.map ae)) rfl (aY rfl rfl) ?_
 obtain⟨r3,hr3,h⟩:=bS h
 refine dq [] [] (.hs 113 0 [] 4 0 (r3.map ae).length) rfl (cP (Qu hr3)) ?_ (dE rfl rfl rfl rfl (bA (bV rfl) dB) (Qu hr3) (.inr rfl) rfl)
 refine dq [1] [] (.hp 1 0 [] 5 0 3) rfl (al rfl rfl rfl) ?_
 refine dq [1] [] (.isl false (s_1.Balances.map I)) rfl (aY rfl rfl) ?_
 obtain⟨r4,hr4,h⟩:=bS h
 refine dq [] [] (.hs 161 0 [] 1 0 (r4.map I).length) rfl (cP (Qx hr4)) ?_ (dE rfl rfl rfl rfl (bA (bV rfl) dB) (Qx hr4) (.inr rfl) rfl)
 refine dq [1] [] (.hp 1 0 [] 5 0 1) rfl (al rfl rfl rfl) ?_
 refine dz [1,65] [1,65] rfl (gy rfl rfl (fu (path:=[]) (pl:=false) (e':=.agg [I s_1.Day,.usl 1 (r2.map str),.isl false (s_1.Duties.map ae),.isl false (s_1.Balances.map I),B s_1.Over]) (es2':=[.agg [I s_1.Day,.usl 1 (r2.map str),.isl false (s_1.Duties.map ae),.isl false (s_1.Balances.map I),B s_1.Over]]) rfl (eR rfl (cQ rfl rfl)) rfl rfl rfl bc rfl rfl rfl rfl rfl d9 1 rfl)) ?_
 refine dq [1] [] (.hp 1 0 [] 5 0 2) rfl (al rfl rfl rfl) ?_
 refine dz [1,113] [1,113] rfl (gy rfl rfl (fu (path:=[]) (pl:=false) (e':=.agg [I s_1.Day,.usl 1 (r2.map str),.usl 4 (r3.map ae),.isl false (s_1.Balances.map I),B s_1.Over]) (es2':=[.agg [I s_1.Day,.usl 1 (r2.map str),.usl 4 (r3.map ae),.isl false (s_1.Balances.map I),B s_1.Over]]) rfl (eR rfl (cQ rfl rfl)) rfl rfl rfl bc rfl rfl rfl rfl rfl d9 2 rfl)) ?_
 refine dq [1] [] (.hp 1 0 [] 5 0 3) rfl (al rfl rfl rfl) ?_
 refine dz [1,161] [1,161] rfl (gy rfl rfl (fu (path:=[]) (pl:=false) (e':=.agg [I s_1.Day,.usl 1 (r2.map str),.usl 4 (r3.map ae),.usl 1 (r4.map I),B s_1.Over]) (es2':=[.agg [I s_1.Day,.usl 1 (r2.map str),.usl 4 (r3.map ae),.usl 1 (r4.map I),B s_1.Over]]) rfl (eR rfl (cQ rfl rfl)) rfl rfl rfl bc rfl rfl rfl rfl rfl d9 3 rfl)) ?_
 refine de 273 rfl rfl ?_
 refine cq 3 [15] [.agg [I s_1.Day,.hs 1 3 [(0,1)] 1 0 (r2.map str).length,.hs 1 3 [(0,2)] 4 0 (r3.map ae).length,.hs 1 3 [(0,3)] 1 0 (r4.map I).length,B s_1.Over]] 289 ?_
 refine o0 305 rfl rfl (gy rfl rfl (fu (path:=[]) (pl:=false) (e':=.agg [I s_1.Day,.usl 1 (r2.map str),.usl 4 (r3.map ae),.usl 1 (r4.map I),B s_1.Over]) (es2':=[.agg [I s_1.Day,.usl 1 (r2.map str),.usl 4 (r3.map ae),.usl 1 (r4.map I),B s_1.Over]]) rfl (lx (bK (cp rfl) (bK (fw (path:=[(0,1)]) rfl rfl (eY rfl rfl bc) rfl (jh (path:=[]) (i:=0) (k:=1) (e':=.agg [I s_1.Day,.dead,.usl 4 (r3.map ae),.usl 1 (r4.map I),B s_1.Over]) (es2':=[.agg [I s_1.Day,.dead,.usl 4 (r3.map ae),.usl 1 (r4.map I),B s_1.Over]]) bc rfl rfl rfl d9)) (bK (fw (path:=[(0,2)]) rfl rfl (eY rfl rfl bc) rfl (jh (path:=[]) (i:=0) (k:=2) (e':=.agg [I s_1.Day,.dead,.dead,.usl 1 (r4.map I),B s_1.Over]) (es2':=[.agg [I s_1.Day,.dead,.dead,.usl 1 (r4.map I),B s_1.Over]]) bc rfl rfl rfl d9)) (bK (fw (path:=[(0,3)]) rfl rfl (eY rfl rfl bc) rfl (jh (path:=[]) (i:=0) (k:=3) (e':=.agg [I s_1.Day,.dead,.dead,.dead,B s_1.Over]) (es2':=[.agg [I s_1.Day,.dead,.dead,.dead,B s_1.Over]]) bc rfl rfl rfl d9)) (bK (cp rfl) ly)))))) rfl rfl rfl bc rfl rfl rfl rfl rfl d9 2 rfl)) ?_
 refine aq 1 ?_
 obtain rfl:=sI h
 exact ca rfl ⟨_,fin (vs:=[.agg [I s_1.Day,.hs 17 2 [(0,1)] 1 0 (r2.map str).length,.hs 17 2 [(0,2)] 4 0 (r3.map ae).length,.hs 17 2 [(0,3)] 1 0 (r4.map I).length,B s_1.Over]]) (GT (pY rfl rfl rfl) GU) (fq (lx (bK (cp rfl) (bK (fw (path:=[(0,1)]) rfl rfl (eY rfl rfl bc) rfl (jh (path:=[]) (i:=0) (k:=1) (e':=.agg [I s_1.Day,.dead,.usl 4 (r3.map ae),.usl 1 (r4.map I),B s_1.Over]) (es2':=[.agg [I s_1.Day,.dead,.usl 4 (r3.map ae),.usl 1 (r4.map I),B s_1.Over]]) bc rfl rfl rfl d9)) (bK (fw (path:=[(0,2)]) rfl rfl (eY rfl rfl bc) rfl (jh (path:=[]) (i:=0) (k:=2) (e':=.agg [I s_1.Day,.dead,.dead,.usl 1 (r4.map I),B s_1.Over]) (es2':=[.agg [I s_1.Day,.dead,.dead,.usl 1 (r4.map I),B s_1.Over]]) bc rfl rfl rfl d9)) (bK (fw (path:=[(0,3)]) rfl rfl (eY rfl rfl bc) rfl (jh (path:=[]) (i:=0) (k:=3) (e':=.agg [I s_1.Day,.dead,.dead,.dead,B s_1.Over]) (es2':=[.agg [I s_1.Day,.dead,.dead,.dead,B s_1.Over]]) bc rfl rfl rfl d9)) (bK (cp rfl) ly)))))) eA) rfl (eS fy),ft⟩
theorem O3 {G:bR}:bQ G 109 yU:=gT 1 0 (aJ QB (aJ Qv (aJ Qy bq))) bX Tryz.func109 (fun a r h=>TD a r h)
def IW:(Contract×State)→List V:=cA aO (oA b9)
def IX (r:machine):V×List V:=(.uptr (Kv r),[])
noncomputable def GF :=aZ [false,false] IW IX fun x=>Kf x.1 x.2
theorem abY {c_1:Contract}{s_2:State}{r}(h:Kf c_1 s_2=some r):GF.F (IW (c_1,s_2))=some (IX r):=aH (aK bb (aI cZ)) h
noncomputable def ab0 :=aF Tryz.f60
noncomputable def WT :=bW [(109,yU),(101,sP)]
def abZ (x:Contract×State)(r:machine):St→Prop:=QF WT Tryz.f60 [false,false] (IW x) (IX r)
theorem XJ (c_1:Contract)(s_2:State)(r:machine)(h:Kf c_1 s_2=some r):bo WT Tryz.f60 [false,false] 0 (IW (c_1,s_2)) (IX r):=by
 show Run _ _ (abZ (c_1,s_2) r) [.code ab0] _
 refine rI 12 [(0,ac c_1),(1,ak s_2)] [] 1 ?_
 unfold Kf at h
 refine ck 7 [2,3] [] [1,17] [] [.hp 1 0 [] 2 0 0,.hp 17 0 [] 5 0 0] [some ⟨0,2,[ac c_1]⟩,some ⟨0,5,[ak s_2]⟩] 49 (by kernel_rfl) ?_
 refine eB [0,0,2,0,14,31,63,127] rfl (by decide +kernel) ?_
 refine dq [1] [] (ac c_1) rfl (aY rfl rfl) ?_
 refine dq [17] [] (ak s_2) rfl (aY rfl rfl) ?_
 obtain⟨r3,hr3,h⟩:=bS h
 refine dq [] [] (.agg [I r3.Day,.hs 81 0 [] 1 0 (r3.Facts.map str).length,.hs 82 0 [] 4 0 (r3.Duties.map ae).length,.hs 83 0 [] 1 0 (r3.Balances.map I).length,B r3.Over]) rfl (cP (O2 hr3)) ?_ (dE rfl rfl rfl rfl (bA (bV rfl) dB) (O2 hr3) (.inr rfl) rfl)
 refine dq [1] [] (ac c_1) rfl (aY rfl rfl) ?_
 obtain⟨r4,hr4,h⟩:=bS h
 refine dq [] [] (.hs 113 0 [] 1 0 (r4.map str).length) rfl (cP (Iu hr4)) ?_ (dE rfl rfl rfl rfl (bA (bV rfl) dB) (Iu hr4) (.inr rfl) rfl)
 refine dk 1 [10] [.agg [.isl false (c_1.Parties.map str),.isl false (c_1.Clauses.map aj),I r3.Day,.hs 81 0 [] 1 0 (r3.Facts.map str).length,.hs 82 0 [] 4 0 (r3.Duties.map ae).length,.hs 83 0 [] 1 0 (r3.Balances.map I).length,B r3.Over,.hs 113 0 [] 1 0 (r4.map str).length,.isl true [],B false]] ?_
 refine dq [81,82,83,113] [81,82,83,113] (.hp 145 0 [] 10 0 0) rfl (aaW rfl (lx (bK (cp rfl) (bK (cp rfl) (bK (cp rfl) (bK (cQ rfl rfl) (bK (cQ rfl rfl) (bK (cQ rfl rfl) (bK (cp rfl) (bK (cQ rfl rfl) (bK (cp rfl) (bK (cp rfl) ly))))))))))) rfl) ?_
 refine dk 1 [4] [.hp 145 0 [] 10 0 0] ?_
 refine de 177 rfl rfl ?_
 refine eM 145 [.agg [.isl false (c_1.Parties.map str),.isl false (c_1.Clauses.map aj),I r3.Day,.usl 1 (r3.Facts.map str),.usl 4 (r3.Duties.map ae),.usl 1 (r3.Balances.map I),B r3.Over,.usl 1 (r4.map str),.usl 4 (([]).map iw),B false]] rfl rfl (aD (fF (aD (.refl _) (aD (.refl _) (aD (.refl _) (aD (.refl _) (aD (.refl _) (aD (.refl _) (aD (.refl _) (aD (.refl _) (aD (.nil _) (aD (.refl _) dU))))))))))) dU) ?_
 obtain rfl:=sI h
 exact ca rfl ⟨_,fin (vs:=[.hp 145 0 [] 10 0 0]) rfl (fq (eR rfl (XM (path:=[]) rfl rfl bc qC)) eA) rfl (eS (eS fy)),ft⟩
theorem Vx {G:bR}:bQ G 60 GF:=gT 2 0 (aJ O3 (aJ Ba bq)) bX Tryz.func60 (fun a r h=>XJ a.1 a.2 r h)
def EY:(Condition×(List aa)×Int)→List V:=cA bg (cA (fa str) (oA I))
def EZ (r:Bool):V×List V:=(B r,[])
noncomputable def A9 (cW:(Condition×(List aa)×Int)→Option Bool):Ent:=aZ [false,false,false] EY EZ cW
theorem sM (cW:(Condition×(List aa)×Int)→Option Bool){x}{r}(h:cW x=some r):(A9 cW).F (EY x)=some (EZ r):=aH (aK cH (aK (bv ba) (aI bz))) h
noncomputable def Gu :=A9 (aN mW)
theorem WI {c_1:Condition}{bp:List aa}{b8:Int}{r}(h:J4 c_1 bp b8=some r):Gu.F (EY (c_1,bp,b8))=some (EZ r):=sM (aN mW) h
noncomputable def E0 :=aF Tryz.f147
noncomputable def Iq (cW:(Condition×(List aa)×Int)→Option Bool):Env:=bW [(129,nP),(147,(A9 cW))]
def tP (cW:(Condition×(List aa)×Int)→Option Bool)(x:Condition×(List aa)×Int)(r:Bool):St→Prop:=QF (Iq cW) Tryz.f147 [false,false,false] (EY x) (EZ r)
theorem Xw (cW:(Condition×(List aa)×Int)→Option Bool)(c_1:Condition)(bp:List aa)(b8:Int)(r:Bool)(h:wY cW c_1 bp b8=some r):bo (Iq cW) Tryz.f147 [false,false,false] 0 (EY (c_1,bp,b8)) (EZ r):=by
 show Run _ _ (tP cW (c_1,bp,b8) r) [.code E0] _
 refine rI 67 [(0,ah c_1),(1,.isl false (bp.map str)),(2,I b8)] [] 1 ?_
 unfold wY at h
 refine ck 17 [3,8,9] [] [1] [] [.hp 1 0 [] 4 0 0,I c_1.Op,B (c_1.Op==2)] [some ⟨0,4,[ah c_1]⟩] 97 (by kernel_rfl) ?_
 refine sq h ?_ ?_<;>intro h
 ·refine cq 5 [11,13] [.isl false (bp.map str),str c_1.Name] 145 ?_
  obtain⟨r4,hr4,h⟩:=bS h
  refine oq 161 (B r4) rfl (cP (Dd hr4)) ?_
  refine cq 2 [6] [B r4] 177 ?_
  obtain rfl:=sI h
  exact rP [B r4]
 ·refine cq 5 [15] [B (c_1.Op==3)] 129 ?_
  refine sq h ?_ ?_<;>intro h
  ·refine cq 8 [6] [B (decide (b8≥c_1.Day))] 209 ?_
   obtain rfl:=sI h
   exact rP [B (decide (b8≥c_1.Day))]
  ·refine cq 5 [21] [B (c_1.Op==4)] 161 ?_
   refine sq h ?_ ?_<;>intro h
   ·refine cq 4 [24] [.isl false (c_1.Parts.map ay)] 193 ?_
    obtain⟨e5,he5,h⟩:=bS h
    refine oq 209 (.iptr (ah e5) 0) rfl (au rfl rfl rfl (aV rfl rfl (bB e5) rfl he5)) ?_
    refine cq 3 [26,27,28] [ah e5,.isl false (bp.map str),I b8] 257 ?_
    obtain⟨r6,hr6,h⟩:=bS h
    refine oq 273 (B r6) rfl (ce rfl rfl (cS rfl rfl rfl (bA (bV rfl) (bA (bV rfl) (bA (bV rfl) dB))) (sM cW hr6) (.inr rfl) eb rfl rfl rfl)) ?_
    refine cq 3 [6] [B (!r6)] 305 ?_
    obtain rfl:=sI h
    exact rP [B (!r6)]
   ·refine cq 5 [31] [B (c_1.Op==5)] 193 ?_
    refine sq h ?_ ?_<;>intro h
    ·refine cq 4 [34] [.isl false (c_1.Parts.map ay)] 225 ?_
     obtain⟨e7,he7,h⟩:=bS h
     refine oq 241 (.iptr (ah e7) 0) rfl (au rfl rfl rfl (aV rfl rfl (bB e7) rfl he7)) ?_
     refine cq 3 [36,37,38] [ah e7,.isl false (bp.map str),I b8] 289 ?_
     obtain⟨r8,hr8,h⟩:=bS h
     refine oq 305 (B r8) rfl (ce rfl rfl (cS rfl rfl rfl (bA (bV rfl) (bA (bV rfl) (bA (bV rfl) dB))) (sM cW hr8) (.inr rfl) eb rfl rfl rfl)) ?_
     refine cq 1 [40] [B r8] 321 ?_
     obtain⟨y9,hy9,hy91,hy92⟩:=bJ h
     have j9:∀u9,y9=.inr u9→Run (Iq cW) 0 (tP cW (c_1,bp,b8) r) (.code (cR (cL (cR (cR (cR (cR (cR (cR (cR (cL (cR (cL (cR E0)))))))))))))::.blk 0::.code (cR (cR E0))::[]) (sT 67 [(6,B u9)] [] 1):=by
      intro u9 hu
      replace h:=hy92 u9 hu
      obtain rfl:=sI h
      exact rP [B u9]
     have r9:∀r',y9=.inl r'→∀st,tP cW (c_1,bp,b8) r' st→(tP cW (c_1,bp,b8) r) st:=fun r' e st hq=>by rw[hy91 r' e] at hq;exact hq
     replace h:=hy9
     refine sp 40 h rfl ?_ ?_<;>intro h
     ·refine cq 2 [42] [.isl false (c_1.Parts.map ay)] 353 ?_
      obtain⟨e10,he10,h⟩:=bS h
      refine oy 369 (.iptr (ah e10) 0) rfl (au rfl rfl rfl (aV rfl rfl (bB e10) rfl he10)) ?_
      refine cq 3 [44,45,46] [ah e10,.isl false (bp.map str),I b8] 417 ?_
      obtain⟨r11,hr11,h⟩:=bS h
      refine oy 433 (B r11) rfl (ce rfl rfl (cS rfl rfl rfl (bA (bV rfl) (bA (bV rfl) (bA (bV rfl) dB))) (sM cW hr11) (.inr rfl) eb rfl rfl rfl)) ?_
      refine cq 3 [6] [B r11] 465 ?_
      exact rf [6] [] (j9 _ (ai h) :)
     ·refine cq 10 [6] [B false] 465 ?_
      exact rf [6] [] (j9 _ (ai h) :)
    ·refine cq 5 [49] [B (c_1.Op==6)] 225 ?_
     refine sq h ?_ ?_<;>intro h
     ·refine cq 4 [52] [.isl false (c_1.Parts.map ay)] 257 ?_
      obtain⟨e12,he12,h⟩:=bS h
      refine oq 273 (.iptr (ah e12) 0) rfl (au rfl rfl rfl (aV rfl rfl (bB e12) rfl he12)) ?_
      refine cq 3 [54,55,56] [ah e12,.isl false (bp.map str),I b8] 321 ?_
      obtain⟨r13,hr13,h⟩:=bS h
      refine oq 337 (B r13) rfl (ce rfl rfl (cS rfl rfl rfl (bA (bV rfl) (bA (bV rfl) (bA (bV rfl) dB))) (sM cW hr13) (.inr rfl) eb rfl rfl rfl)) ?_
      refine cq 1 [58] [B r13] 353 ?_
      obtain⟨y14,hy14,hy141,hy142⟩:=bJ h
      have j14:∀u14,y14=.inr u14→Run (Iq cW) 0 (tP cW (c_1,bp,b8) r) (.code (cR (cL (cR (cR (cR (cR (cR (cR (cR (cR (cR (cL (cR (cL (cR E0)))))))))))))))::.blk 0::.code (cR (cR E0))::[]) (sT 67 [(6,B u14)] [] 1):=by
       intro u14 hu
       replace h:=hy142 u14 hu
       obtain rfl:=sI h
       exact rP [B u14]
      have r14:∀r',y14=.inl r'→∀st,tP cW (c_1,bp,b8) r' st→(tP cW (c_1,bp,b8) r) st:=fun r' e st hq=>by rw[hy141 r' e] at hq;exact hq
      replace h:=hy14
      refine sp 58 h rfl ?_ ?_<;>intro h
      ·refine cq 10 [6] [B true] 497 ?_
       exact rf [6] [] (j14 _ (ai h) :)
      ·refine cq 2 [60] [.isl false (c_1.Parts.map ay)] 385 ?_
       obtain⟨e15,he15,h⟩:=bS h
       refine oy 401 (.iptr (ah e15) 0) rfl (au rfl rfl rfl (aV rfl rfl (bB e15) rfl he15)) ?_
       refine cq 3 [62,63,64] [ah e15,.isl false (bp.map str),I b8] 449 ?_
       obtain⟨r16,hr16,h⟩:=bS h
       refine oy 465 (B r16) rfl (ce rfl rfl (cS rfl rfl rfl (bA (bV rfl) (bA (bV rfl) (bA (bV rfl) dB))) (sM cW hr16) (.inr rfl) eb rfl rfl rfl)) ?_
       refine cq 3 [6] [B r16] 497 ?_
       exact rf [6] [] (j14 _ (ai h) :)
     ·refine aq 1 ?_
      refine cq 5 [6] [B true] 241 ?_
      obtain rfl:=sI h
      exact rP [B true]
theorem Vm {G:bR}:bQ G 147 Gu:=iG fun cW g_Ffl=>gT 3 0 (aJ qJ (aJ g_Ffl bq)) bX Tryz.func147 (fun a r h=>Xw cW a.1 a.2.1 a.2.2 r h)
def BI:(machine×Clause)→List V:=cA (HA cd) (oA aj)
def BK (r:Bool):V×List V:=(B r,[])
noncomputable def yS :=aZ [false,false] BI BK fun x=>FZ x.1 x.2
theorem YH {m_1:machine}{x_2:Clause}{r}(h:FZ m_1 x_2=some r):yS.F (BI (m_1,x_2))=some (BK r):=aH (aK (eW hP) (aI cC)) h
noncomputable def YJ :=aF Tryz.f112
noncomputable def OZ :=bW [(147,Gu)]
def YI (x:machine×Clause)(r:Bool):St→Prop:=QF OZ Tryz.f112 [false,false] (BI x) (BK r)
theorem TC (m_1:machine)(x_2:Clause)(r:Bool)(h:FZ m_1 x_2=some r):bo OZ Tryz.f112 [false,false] 0 (BI (m_1,x_2)) (BK r):=by
 show Run _ _ (YI (m_1,x_2) r) [.code YJ] _
 refine rI 18 [(0,.iptr (cd m_1) 0),(1,ao x_2)] [] 1 ?_
 unfold FZ at h
 refine ck 6 [3] [] [1] [] [.hp 1 0 [] 12 0 0] [some ⟨0,12,[ao x_2]⟩] 33 (by kernel_rfl) ?_
 refine eB [0,1,0,4,12,28,60,0,128,384,896,1920,4095,8191] rfl (by decide +kernel) ?_
 refine dq [1] [] (.hp 1 0 [] 12 0 6) rfl (al rfl rfl rfl) ?_
 refine dq [1] [] (ah x_2.When) rfl (aY rfl rfl) ?_
 refine dk 1 [7] [.iptr (cd m_1) 0] ?_
 refine dq [] [] (.iptr (cd m_1) 0) rfl (nf rfl rfl) ?_
 refine dq [] [] (.iptr (cd m_1) 2) rfl (al rfl rfl rfl) ?_
 refine dq [] [] (.iptr (cd m_1) 3) rfl (al rfl rfl rfl) ?_
 refine dq [] [] (.isl false (m_1.f_s.Facts.map str)) rfl (aY rfl rfl) ?_
 refine dk 1 [12] [.iptr (cd m_1) 0] ?_
 refine dq [] [] (.iptr (cd m_1) 0) rfl (nf rfl rfl) ?_
 refine dq [] [] (.iptr (cd m_1) 2) rfl (al rfl rfl rfl) ?_
 refine dq [] [] (.iptr (cd m_1) 2) rfl (al rfl rfl rfl) ?_
 refine dq [] [] (I m_1.f_s.Day) rfl (aY rfl rfl) ?_
 obtain⟨r3,hr3,h⟩:=bS h
 refine dq [] [] (B r3) rfl (cP (WI hr3)) ?_ (dE rfl rfl rfl rfl (bA (bV rfl) (bA (bV rfl) (bA (bV rfl) dB))) (WI hr3) (.inr rfl) rfl)
 refine dk 1 [4] [B r3] ?_
 refine de 257 rfl rfl ?_
 obtain rfl:=sI h
 exact rP [B r3]
theorem O0 {G:bR}:bQ G 112 yS:=gT 2 0 (aJ Vm bq) bX Tryz.func112 (fun a r h=>TC a.1 a.2 r h)
def BD:(Clause×Int×Int×aa×machine)→List V:=cA aj (cA (fun x:Int=>.iptr (I x) 0) (cA (fun x:Int=>.iptr (I x) 0) (cA (fun x:aa=>.iptr (str x) 0) (oA (fun x:machine=>.iptr ((HA cd) x) 0)))))
def BE (r:Bool):V×List V:=(B r,[])
noncomputable def yQ :=aZ [false,false,false,false,false] BD BE fun x=>yP x.1 x.2.1 x.2.2.1 x.2.2.2.1 x.2.2.2.2
theorem YD {x_1:Clause}{a_2:Int}{a_3:Int}{a_4:aa}{a_5:machine}{r}(h:yP x_1 a_2 a_3 a_4 a_5=some r):yQ.F (BD (x_1,a_2,a_3,a_4,a_5))=some (BE r):=aH (aK cC (aK (eW bz) (aK (eW bz) (aK (eW ba) (aI (eW (eW hP))))))) h
noncomputable def BF :=aF Tryz.f111
noncomputable def uW :=bW [(112,yS)]
def lA (x:Clause×Int×Int×aa×machine)(r:Bool):St→Prop:=QF uW Tryz.f111 [false,false,false,false,false] (BD x) (BE r)
theorem TA (x_1:Clause)(a_2:Int)(a_3:Int)(a_4:aa)(a_5:machine)(r:Bool)(h:yP x_1 a_2 a_3 a_4 a_5=some r):bo uW Tryz.f111 [false,false,false,false,false] 0 (BD (x_1,a_2,a_3,a_4,a_5)) (BE r):=by
 show Run _ _ (lA (x_1,a_2,a_3,a_4,a_5) r) [.code BF] _
 refine rI 28 [(0,ao x_1),(1,.iptr (I a_2) 0),(2,.iptr (I a_3) 0),(3,.iptr (str a_4) 0),(4,.iptr (.iptr (cd a_5) 0) 0)] [] 1 ?_
 unfold yP at h
 refine ck 12 [5,11] [] [1] [] [.hp 1 0 [] 12 0 0,B (x_1.Kind==a_2)] [some ⟨0,12,[ao x_1]⟩] 113 (by kernel_rfl) ?_
 obtain⟨y6,hy6,hy61,hy62⟩:=bJ h
 have j6:∀u6,y6=.inr u6→Run uW 0 (lA (x_1,a_2,a_3,a_4,a_5) r) (.code (cR (cR BF))::[]) (sT 28 [(6,B u6)] [] 1):=by
  intro u6 hu
  replace h:=hy62 u6 hu
  obtain rfl:=sI h
  exact rP [B u6]
 have r6:∀r',y6=.inl r'→∀st,lA (x_1,a_2,a_3,a_4,a_5) r' st→(lA (x_1,a_2,a_3,a_4,a_5) r) st:=fun r' e st hq=>by rw[hy61 r' e] at hq;exact hq
 replace h:=hy6
 refine sp 11 h rfl ?_ ?_<;>intro h
 ·refine cq 6 [17] [B (x_1.Party==a_3)] 209 ?_
  obtain⟨y7,hy7,hy71,hy72⟩:=bL h
  have j7:∀u7,y7=.inr u7→Run uW 0 (lA (x_1,a_2,a_3,a_4,a_5) r) (.code (cR (cR BF))::[]) (sT 28 [(6,B u7)] [] 1):=by
   intro u7 hu
   replace h:=hy72 u7 hu
   exact rf [6] [] (j6 _ (ai h) :)
  have r7:∀r',y7=.inl r'→∀st,lA (x_1,a_2,a_3,a_4,a_5) r' st→(lA (x_1,a_2,a_3,a_4,a_5) r) st:=fun r' e st hq=>r6 r' (hy71 r' e) st hq
  replace h:=hy7
  refine sp 17 h rfl ?_ ?_<;>intro h
  ·refine cq 6 [23] [B (x_1.Action==a_4)] 305 ?_
   obtain⟨y8,hy8,hy81,hy82⟩:=bL h
   have j8:∀u8,y8=.inr u8→Run uW 0 (lA (x_1,a_2,a_3,a_4,a_5) r) (.code (cR (cR BF))::[]) (sT 28 [(6,B u8)] [] 1):=by
    intro u8 hu
    replace h:=hy82 u8 hu
    exact rf [6] [] (j7 _ (ai h) :)
   have r8:∀r',y8=.inl r'→∀st,lA (x_1,a_2,a_3,a_4,a_5) r' st→(lA (x_1,a_2,a_3,a_4,a_5) r) st:=fun r' e st hq=>r7 r' (hy81 r' e) st hq
   replace h:=hy8
   refine sp 23 h rfl ?_ ?_<;>intro h
   ·refine cq 2 [24,25] [.iptr (cd a_5) 0,ao x_1] 337 ?_
    obtain⟨r9,hr9,h⟩:=bS h
    refine oy 353 (B r9) rfl (cP (YH hr9)) ?_
    refine cq 3 [6] [B r9] 385 ?_
    exact rf [6] [] (j8 _ (ai h) :)
   ·refine cq 6 [6] [B false] 385 ?_
    exact rf [6] [] (j8 _ (ai h) :)
  ·refine cq 12 [6] [B false] 385 ?_
   exact rf [6] [] (j7 _ (ai h) :)
 ·refine cq 18 [6] [B false] 385 ?_
  exact rf [6] [] (j6 _ (ai h) :)
theorem OW {G:bR}:bQ G 111 yQ:=gT 5 0 (aJ O0 bq) bX Tryz.func111 (fun a r h=>TA a.1 a.2.1 a.2.2.1 a.2.2.2.1 a.2.2.2.2 r h)
def Dm:((List Clause)×(Int×Int×aa×machine))→List V:=cA (fa aj) (oA (fun x:Int×Int×aa×machine=>(.fn 111 [.iptr (I x.1) 0,.iptr (I x.2.1) 0,.iptr (str x.2.2.1) 0,.iptr ((HA cd) x.2.2.2) 0]:V)))
def Dn (r:Int):V×List V:=(I r,[])
noncomputable def Ah :=aZ [false,false] Dm Dn fun x=>Ga x.1 x.2
theorem Z7 {s_1:List Clause}{f_2:Int×Int×aa×machine}{r}(h:Ga s_1 f_2=some r):Ah.F (Dm (s_1,f_2))=some (Dn r):=aH (aK (bv cC) (aI (X7 bz bz ba (eW hP)))) h
noncomputable def QV :=aF Tryz.f110
noncomputable def JC :=bW [(111,yQ)]
def QU (x:(List Clause)×(Int×Int×aa×machine))(r:Int):St→Prop:=QF JC Tryz.f110 [false,false] (Dm x) (Dn r)
theorem LP (s_1:List Clause)(f_2:Int×Int×aa×machine):cX JC 0 (QU (s_1,f_2)) (cL (cL (cR (cL (cR QV))))) 0 (sf s_1 f_2) (fun u=>(sT 19 [] [] 1)) fun x3=>(sT 19 [(0,.isl false (s_1.map aj)),(1,.fn 111 [.iptr (I f_2.1) 0,.iptr (I f_2.2.1) 0,.iptr (str f_2.2.2.1) 0,.iptr (.iptr (cd f_2.2.2.2) 0) 0]),(7,I (len s_1)),(8,I x3)] [] 1):=eI (xM s_1 f_2) fun {Q K} hK self ih x3 y h hr hn=>by
 unfold mj at h
 refine cq 5 [9] [B (decide (x3<(len s_1)))] 17 ?_
 refine sq h ?_ ?_<;>intro h
 ·refine aq 1 ?_
  refine cq 12 [5,11,12,13] [I x3,.fn 111 [.iptr (I f_2.1) 0,.iptr (I f_2.2.1) 0,.iptr (str f_2.2.2.1) 0,.iptr (.iptr (cd f_2.2.2.2) 0) 0],.isl false (s_1.map aj),I x3] 97 ?_
  obtain⟨e4,he4,h⟩:=bS h
  refine oq 113 (.iptr (ao e4) 0) rfl (au rfl rfl rfl (aV rfl rfl rfl rfl he4)) ?_
  refine cq 1 [15] [ao e4] 129 ?_
  obtain⟨r5,hr5,h⟩:=bS h
  refine oq 145 (B r5) rfl (cP (YD hr5)) ?_
  refine aq 1 ?_
  refine sq h ?_ ?_<;>intro h
  ·refine cq 5 [4] [I x3] 177 ?_
   exact ca rfl (hr _ (ai h) _ (qp [I x3]))
  ·refine aq 1 ?_
   refine cq 5 [8] [I (az (x3+1))] 177 ?_
   refine dQ ?_
   exact rf [0,1,7,8] [] (ih _ _ h hr hn :)
 ·refine aq 1 ?_
  exact rf [] [] (hn _ (ai h) :) (hk:=hK)
theorem Uz (s_1:List Clause)(f_2:Int×Int×aa×machine)(r:Int)(h:Ga s_1 f_2=some r):bo JC Tryz.f110 [false,false] 0 (Dm (s_1,f_2)) (Dn r):=by
 show Run _ _ (QU (s_1,f_2) r) [.code QV] _
 refine rI 19 [(0,.isl false (s_1.map aj)),(1,.fn 111 [.iptr (I f_2.1) 0,.iptr (I f_2.2.1) 0,.iptr (str f_2.2.2.1) 0,.iptr (.iptr (cd f_2.2.2.2) 0) 0])] [] 1 ?_
 unfold Ga at h
 refine cq 8 [6] [.isl false (s_1.map aj)] 33 ?_
 refine oq 49 (I (len s_1)) rfl (br rfl rfl rfl (bC rfl)) ?_
 refine cq 3 [8] [I (0)] 65 ?_
 obtain⟨y6,hy6,hy61,hy62⟩:=bJ h
 refine cj rfl ?_
 refine rf [0,1,7,8] [] (LP s_1 f_2 rfl 0 _ hy6 (fun r' e st hq=>by rw[hy61 r' e] at hq;exact hq) fun u6 hu=>?_)
 replace h:=hy62 u6 hu
 refine cq 4 [4] [I (-1)] 17 ?_
 obtain rfl:=sI h
 exact rP [I (-1)]
theorem QW {G:bR}:bQ G 110 Ah:=gT 2 0 (aJ OW bq) bX Tryz.func110 (fun a r h=>Uz a.1 a.2 r h)
def IY:(machine×Int×Int×aa)→List V:=cA (HA cd) (cA I (cA I (oA str)))
def IZ (r:Int):V×List V:=(I r,[])
noncomputable def GG :=aZ [false,false,false,false] IY IZ fun x=>Hk x.1 x.2.1 x.2.2.1 x.2.2.2
theorem WV {m_1:machine}{cV:Int}{aE:Int}{aA:aa}{r}(h:Hk m_1 cV aE aA=some r):GG.F (IY (m_1,cV,aE,aA))=some (IZ r):=aH (aK (eW hP) (aK bz (aK bz (aI ba)))) h
noncomputable def ab3 :=aF Tryz.f61
noncomputable def WU :=bW [(110,Ah)]
def ab1 (x:machine×Int×Int×aa)(r:Int):St→Prop:=QF WU Tryz.f61 [false,false,false,false] (IY x) (IZ r)
theorem XK (m_1:machine)(cV:Int)(aE:Int)(aA:aa)(r:Int)(h:Hk m_1 cV aE aA=some r):bo WU Tryz.f61 [false,false,false,false] 0 (IY (m_1,cV,aE,aA)) (IZ r):=by
 show Run _ _ (ab1 (m_1,cV,aE,aA) r) [.code ab3] _
 refine rI 16 [(0,.iptr (cd m_1) 0),(1,I cV),(2,I aE),(3,str aA)] [] 1 ?_
 unfold Hk at h
 refine ck 16 [13,14] [] [1,17,33,49] [] [.isl false (m_1.f_c.Clauses.map aj),.fn 111 [.hp 17 0 [] 1 0 0,.hp 33 0 [] 1 0 0,.hp 49 0 [] 1 0 0,.hp 1 0 [] 1 0 0]] [some ⟨0,1,[.iptr (cd m_1) 0]⟩,some ⟨0,1,[I cV]⟩,some ⟨0,1,[I aE]⟩,some ⟨0,1,[str aA]⟩] 177 (by kernel_rfl) ?_
 obtain⟨r5,hr5,h⟩:=bS h
 refine oq 193 (I r5) rfl (ce rfl rfl (cS rfl rfl rfl (bA (bV rfl) (bA (HL (d7 (kU (path:=[]) rfl rfl bc rfl rfl) (d7 (kU (path:=[]) rfl rfl bc rfl rfl) (d7 (kU (path:=[]) rfl rfl bc rfl rfl) (d7 (kU (path:=[]) rfl rfl bc rfl rfl) lw))))) dB)) (Z7 hr5) (.inl rfl) eb rfl rfl rfl)) ?_
 refine cq 2 [8] [I r5] 209 ?_
 obtain rfl:=sI h
 exact rP [I r5]
theorem Vy {G:bR}:bQ G 61 GG:=gT 4 0 (aJ QW bq) bX Tryz.func61 (fun a r h=>XK a.1 a.2.1 a.2.2.1 a.2.2.2 r h)
def BG:(machine×Int×aa)→List V:=cA (HA cd) (cA I (oA str))
def BH (r:Int):V×List V:=(I r,[])
noncomputable def yR :=aZ [false,false,false] BG BH fun x=>FY x.1 x.2.1 x.2.2
theorem YE {m_1:machine}{ed:Int}{dN:aa}{r}(h:FY m_1 ed dN=some r):yR.F (BG (m_1,ed,dN))=some (BH r):=aH (aK (eW hP) (aK bz (aI ba))) h
noncomputable def YG :=aF Tryz.f64
noncomputable def OX :=bW [(61,GG)]
def YF (x:machine×Int×aa)(r:Int):St→Prop:=QF OX Tryz.f64 [false,false,false] (BG x) (BH r)
theorem TB (m_1:machine)(ed:Int)(dN:aa)(r:Int)(h:FY m_1 ed dN=some r):bo OX Tryz.f64 [false,false,false] 0 (BG (m_1,ed,dN)) (BH r):=by
 show Run _ _ (YF (m_1,ed,dN) r) [.code YG] _
 refine rI 16 [(0,.iptr (cd m_1) 0),(1,I ed),(2,str dN)] [] 1 ?_
 unfold FY at h
 refine cq 10 [7,8,9] [.iptr (cd m_1) 0,I ed,str dN] 65 ?_
 obtain⟨r4,hr4,h⟩:=bS h
 refine oq 81 (I r4) rfl (cP (WV hr4)) ?_
 refine cq 2 [11] [B (decide (r4≥0))] 97 ?_
 refine sq h ?_ ?_<;>intro h
 ·refine cq 4 [6] [I (-1)] 113 ?_
  obtain rfl:=sI h
  exact rP [I (-1)]
 ·refine aq 1 ?_
  refine cq 5 [12,13,14] [.iptr (cd m_1) 0,I ed,str dN] 145 ?_
  obtain⟨r5,hr5,h⟩:=bS h
  refine oq 161 (I r5) rfl (cP (WV hr5)) ?_
  refine cq 2 [6] [I r5] 177 ?_
  obtain rfl:=sI h
  exact rP [I r5]
theorem OY {G:bR}:bQ G 64 yR:=gT 3 0 (aJ Vy bq) bX Tryz.func64 (fun a r h=>TB a.1 a.2.1 a.2.2 r h)
def HZ:(Contract×State×Int×aa)→List V:=cA aO (cA b9 (cA I (oA str)))
def H0 (r:Bool×Bool):V×List V:=(.tup [B r.1,B r.2],[])
noncomputable def FW :=aZ [false,false,false,false] HZ H0 fun x=>Ja x.1 x.2.1 x.2.2.1 x.2.2.2
theorem abj {c_1:Contract}{s_2:State}{aE:Int}{aA:aa}{r}(h:Ja c_1 s_2 aE aA=some r):FW.F (HZ (c_1,s_2,aE,aA))=some (H0 r):=aH (aK bb (aK cZ (aK bz (aI ba)))) h
noncomputable def abl :=aF Tryz.f27
noncomputable def WB :=bW [(59,Gq),(60,GF),(64,yR)]
def abk (x:Contract×State×Int×aa)(r:Bool×Bool):St→Prop:=QF WB Tryz.f27 [false,false,false,false] (HZ x) (H0 r)
theorem Xa (c_1:Contract)(s_2:State)(aE:Int)(aA:aa)(r:Bool×Bool)(h:Ja c_1 s_2 aE aA=some r):bo WB Tryz.f27 [false,false,false,false] 0 (HZ (c_1,s_2,aE,aA)) (H0 r):=by
 show Run _ _ (abk (c_1,s_2,aE,aA) r) [.code abl] _
 refine rI 23 [(0,ac c_1),(1,ak s_2),(2,I aE),(3,str aA)] [] 1 ?_
 unfold Ja at h
 refine ck 14 [4,5,10,11,12,13] [] [1,17] [] [.hp 1 0 [] 2 0 0,.hp 17 0 [] 5 0 0,ac c_1,ak s_2,I aE,str aA] [some ⟨0,2,[ac c_1]⟩,some ⟨0,5,[ak s_2]⟩] 129 (by kernel_rfl) ?_
 obtain⟨r5,hr5,h⟩:=bS h
 refine oq 145 (B r5) rfl (cP (abt hr5)) ?_
 refine cq 2 [15] [B (!r5)] 161 ?_
 refine sq h ?_ ?_<;>intro h
 ·refine cq 5 [8,9] [B false,B false] 193 ?_
  obtain rfl:=sI h
  exact rP [B false,B false]
 ·refine aq 1 ?_
  refine cq 4 [16,17] [ac c_1,ak s_2] 193 ?_
  obtain⟨r6,hr6,h⟩:=bS h
  refine oq 209 (.hp 193 0 [] 10 0 0) rfl (cP (abY hr6)) ?_
  refine cq 2 [19,20] [I aE,str aA] 241 ?_
  obtain⟨r7,hr7,h⟩:=bS h
  refine oq 257 (I r7) rfl (ce rfl rfl (cS rfl rfl rfl (bA (W6 rfl rfl (kU (path:=[]) rfl rfl bc rfl (W1 (fm rfl (fm rfl (fm rfl (fm (uj (cf fk)) (fm (uj (cf gA)) (fm (uj (cf qN)) (fm rfl (fm (uj (cf fk)) (fm (uj (cf HS)) (fm rfl rfl))))))))))))) (bA (bV rfl) (bA (bV rfl) dB))) (YE hr7) (.inl rfl) eb rfl rfl rfl)) ?_
  refine cq 4 [8,9] [B (decide (r7≥0)),B true] 305 ?_
  obtain rfl:=sI h
  exact rP [B (decide (r7≥0)),B true]
theorem Ty {G:bR}:bQ G 27 FW:=gT 4 0 (aJ Vi (aJ Vx (aJ OY bq))) bX Tryz.func27 (fun a r h=>Xa a.1 a.2.1 a.2.2.1 a.2.2.2 r h)
def Ce:((List aa)×(List aa))→List V:=cA (fa str) (oA (fa str))
def Cf (r:Bool):V×List V:=(B r,[])
noncomputable def tx :=aZ [false,false] Ce Cf fun x=>vd x.1 x.2
theorem PG {a_1:List aa}{b_2:List aa}{r}(h:vd a_1 b_2=some r):tx.F (Ce (a_1,b_2))=some (Cf r):=aH (aK (bv ba) (aI (bv ba))) h
noncomputable def PI :=aF Tryz.f49
noncomputable def Jm :=bW []
def PH (x:(List aa)×(List aa))(r:Bool):St→Prop:=QF Jm Tryz.f49 [false,false] (Ce x) (Cf r)
theorem LC (a_1:List aa)(b_2:List aa):cX Jm 0 (PH (a_1,b_2)) (cL (cL (cR (cL (cR (cR PI)))))) 0 (rR a_1 b_2) (fun u=>(sT 26 [] [] 1)) fun x3=>(sT 26 [(0,.isl false (a_1.map str)),(1,.isl false (b_2.map str)),(5,I x3)] [] 1):=eI (xz a_1 b_2) fun {Q K} hK self ih x3 y h hr hn=>by
 unfold ma at h
 refine cq 5 [11,12] [I x3,.isl false (a_1.map str)] 33 ?_
 refine oq 49 (I (len a_1)) rfl (br rfl rfl rfl (bC rfl)) ?_
 refine cq 2 [14] [B (decide (x3<(len a_1)))] 65 ?_
 refine sq h ?_ ?_<;>intro h
 ·refine aq 1 ?_
  refine aq 3 ?_
  refine eB [0,0,3,7,0,0,48,112,255] rfl (by decide +kernel) ?_
  refine dk 2 [18,17] [I x3,.isl false (a_1.map str)] ?_
  obtain⟨e4,he4,h⟩:=bS h
  refine dq [] [] (.iptr (str e4) 0) rfl (au rfl rfl rfl (aV rfl rfl rfl rfl he4)) ?_
  refine dq [] [] (str e4) rfl (aY rfl rfl) ?_
  refine dk 2 [22,21] [I x3,.isl false (b_2.map str)] ?_
  obtain⟨e5,he5,h⟩:=bS h
  refine dq [] [] (.iptr (str e5) 0) rfl (au rfl rfl rfl (aV rfl rfl rfl rfl he5)) ?_
  refine dq [] [] (str e5) rfl (aY rfl rfl) ?_
  refine dk 1 [25] [B (!(e4==e5))] ?_
  refine de 209 rfl rfl ?_
  refine sq h ?_ ?_<;>intro h
  ·refine cq 4 [4] [B false] 225 ?_
   exact ca rfl (hr _ (ai h) _ (qp [B false]))
  ·refine aq 1 ?_
   refine cq 6 [5] [I (az (x3+1))] 257 ?_
   refine dQ ?_
   exact rf [0,1,5] [] (ih _ _ h hr hn :)
 ·refine aq 1 ?_
  exact rf [] [] (hn _ (ai h) :) (hk:=hK)
theorem TX (a_1:List aa)(b_2:List aa)(r:Bool)(h:vd a_1 b_2=some r):bo Jm Tryz.f49 [false,false] 0 (Ce (a_1,b_2)) (Cf r):=by
 show Run _ _ (PH (a_1,b_2) r) [.code PI] _
 refine rI 26 [(0,.isl false (a_1.map str)),(1,.isl false (b_2.map str))] [] 1 ?_
 unfold vd at h
 refine cq 8 [6] [.isl false (a_1.map str)] 33 ?_
 refine oq 49 (I (len a_1)) rfl (br rfl rfl rfl (bC rfl)) ?_
 refine cq 1 [8] [.isl false (b_2.map str)] 65 ?_
 refine oq 81 (I (len b_2)) rfl (br rfl rfl rfl (bC rfl)) ?_
 refine cq 2 [10] [B ((len a_1) != (len b_2))] 97 ?_
 refine sq h ?_ ?_<;>intro h
 ·refine cq 4 [4] [B false] 113 ?_
  obtain rfl:=sI h
  exact rP [B false]
 ·refine aq 1 ?_
  refine cq 6 [5] [I (0)] 113 ?_
  obtain⟨y6,hy6,hy61,hy62⟩:=bJ h
  refine cj rfl ?_
  refine rf [0,1,5] [] (LC a_1 b_2 rfl 0 _ hy6 (fun r' e st hq=>by rw[hy61 r' e] at hq;exact hq) fun u6 hu=>?_)
  replace h:=hy62 u6 hu
  refine cq 4 [4] [B true] 17 ?_
  obtain rfl:=sI h
  exact rP [B true]
theorem G5 {G:bR}:bQ G 49 tx:=gT 2 0 bq bX Tryz.func49 (fun a r h=>TX a.1 a.2 r h)
def uZ:(Condition×Condition)→List V:=cA bg (oA bg)
def va (r:Bool):V×List V:=(B r,[])
noncomputable def qG (bf:(Condition×Condition)→Option Bool):Ent:=aZ [false,false] uZ va bf
theorem F1 (bf:(Condition×Condition)→Option Bool){x}{r}(h:bf x=some r):(qG bf).F (uZ x)=some (va r):=aH (aK cH (aI cH)) h
def B2:((List Condition)×(List Condition))→List V:=cA (fa ay) (oA (fa ay))
def B3 (r:Bool):V×List V:=(B r,[])
noncomputable def zf (bf:(Condition×Condition)→Option Bool):Ent:=aZ [false,false] B2 B3 fun x=>vb bf x.1 x.2
theorem Y0 (bf:(Condition×Condition)→Option Bool){a_1:List Condition}{b_2:List Condition}{r}(h:vb bf a_1 b_2=some r):(zf bf).F (B2 (a_1,b_2))=some (B3 r):=aH (aK (bv eV) (aI (bv eV))) h
noncomputable def Pp :=aF Tryz.f179
noncomputable def Jj (bf:(Condition×Condition)→Option Bool):Env:=bW [(148,(qG bf))]
def Po (bf:(Condition×Condition)→Option Bool)(x:(List Condition)×(List Condition))(r:Bool):St→Prop:=QF (Jj bf) Tryz.f179 [false,false] (B2 x) (B3 r)
theorem Lz (bf:(Condition×Condition)→Option Bool)(a_1:List Condition)(b_2:List Condition):cX (Jj bf) 0 (Po bf (a_1,b_2)) (cL (cL (cR (cL (cR (cR Pp)))))) 0 (pP bf a_1 b_2) (fun u=>(sT 27 [] [] 1)) fun x3=>(sT 27 [(0,.isl false (a_1.map ay)),(1,.isl false (b_2.map ay)),(5,I x3)] [] 1):=eI (xu bf a_1 b_2) fun {Q K} hK self ih x3 y h hr hn=>by
 unfold kn at h
 refine cq 5 [11,12] [I x3,.isl false (a_1.map ay)] 33 ?_
 refine oq 49 (I (len a_1)) rfl (br rfl rfl rfl (bC rfl)) ?_
 refine cq 2 [14] [B (decide (x3<(len a_1)))] 65 ?_
 refine sq h ?_ ?_<;>intro h
 ·refine aq 1 ?_
  refine aq 3 ?_
  refine eB [0,0,3,7,0,0,48,112,255,511] rfl (by decide +kernel) ?_
  refine dk 2 [18,17] [I x3,.isl false (a_1.map ay)] ?_
  obtain⟨e4,he4,h⟩:=bS h
  refine dq [] [] (.iptr (ah e4) 0) rfl (au rfl rfl rfl (aV rfl rfl (bB e4) rfl he4)) ?_
  refine dq [] [] (ah e4) rfl (aY rfl rfl) ?_
  refine dk 2 [22,21] [I x3,.isl false (b_2.map ay)] ?_
  obtain⟨e5,he5,h⟩:=bS h
  refine dq [] [] (.iptr (ah e5) 0) rfl (au rfl rfl rfl (aV rfl rfl (bB e5) rfl he5)) ?_
  refine dq [] [] (ah e5) rfl (aY rfl rfl) ?_
  obtain⟨r6,hr6,h⟩:=bS h
  refine dq [] [] (B r6) rfl (ce rfl rfl (cS rfl rfl rfl (bA (bV rfl) (bA (bV rfl) dB)) (F1 bf hr6) (.inr rfl) eb rfl rfl rfl)) ?_ (dE rfl rfl rfl rfl (bA (bV rfl) (bA (bV rfl) dB)) (F1 bf hr6) (.inr rfl) rfl)
  refine dk 1 [26] [B (!r6)] ?_
  refine de 225 rfl rfl ?_
  refine sq h ?_ ?_<;>intro h
  ·refine cq 4 [4] [B false] 241 ?_
   exact ca rfl (hr _ (ai h) _ (qp [B false]))
  ·refine aq 1 ?_
   refine cq 6 [5] [I (az (x3+1))] 273 ?_
   refine dQ ?_
   exact rf [0,1,5] [] (ih _ _ h hr hn :)
 ·refine aq 1 ?_
  exact rf [] [] (hn _ (ai h) :) (hk:=hK)
theorem TQ (bf:(Condition×Condition)→Option Bool)(a_1:List Condition)(b_2:List Condition)(r:Bool)(h:vb bf a_1 b_2=some r):bo (Jj bf) Tryz.f179 [false,false] 0 (B2 (a_1,b_2)) (B3 r):=by
 show Run _ _ (Po bf (a_1,b_2) r) [.code Pp] _
 refine rI 27 [(0,.isl false (a_1.map ay)),(1,.isl false (b_2.map ay))] [] 1 ?_
 unfold vb at h
 refine cq 8 [6] [.isl false (a_1.map ay)] 33 ?_
 refine oq 49 (I (len a_1)) rfl (br rfl rfl rfl (bC rfl)) ?_
 refine cq 1 [8] [.isl false (b_2.map ay)] 65 ?_
 refine oq 81 (I (len b_2)) rfl (br rfl rfl rfl (bC rfl)) ?_
 refine cq 2 [10] [B ((len a_1) != (len b_2))] 97 ?_
 refine sq h ?_ ?_<;>intro h
 ·refine cq 4 [4] [B false] 113 ?_
  obtain rfl:=sI h
  exact rP [B false]
 ·refine aq 1 ?_
  refine cq 6 [5] [I (0)] 113 ?_
  obtain⟨y7,hy7,hy71,hy72⟩:=bJ h
  refine cj rfl ?_
  refine rf [0,1,5] [] (Lz bf a_1 b_2 rfl 0 _ hy7 (fun r' e st hq=>by rw[hy71 r' e] at hq;exact hq) fun u7 hu=>?_)
  replace h:=hy72 u7 hu
  refine cq 4 [4] [B true] 17 ?_
  obtain rfl:=sI h
  exact rP [B true]
theorem Pq {G:bR}(bf:(Condition×Condition)→Option Bool)(KG:bQ G 148 (qG bf)):bQ G 179 (zf bf):=gT 2 0 (aJ KG bq) bX Tryz.func179 (fun a r h=>TQ bf a.1 a.2 r h)
noncomputable def ze :=qG (aN oJ)
theorem YX {a_1:Condition}{b_2:Condition}{r}(h:zd a_1 b_2=some r):ze.F (uZ (a_1,b_2))=some (va r):=F1 (aN oJ) h
noncomputable def YZ :=aF Tryz.f148
noncomputable def Pm (bf:(Condition×Condition)→Option Bool):Env:=bW [(179,(zf bf))]
def YY (bf:(Condition×Condition)→Option Bool)(x:Condition×Condition)(r:Bool):St→Prop:=QF (Pm bf) Tryz.f148 [false,false] (uZ x) (va r)
theorem TP (bf:(Condition×Condition)→Option Bool)(a_1:Condition)(b_2:Condition)(r:Bool)(h:rN bf a_1 b_2=some r):bo (Pm bf) Tryz.f148 [false,false] 0 (uZ (a_1,b_2)) (va r):=by
 show Run _ _ (YY bf (a_1,b_2) r) [.code YZ] _
 refine rI 26 [(0,ah a_1),(1,ah b_2)] [] 1 ?_
 unfold rN at h
 refine ck 15 [2,3,9] [] [1,17] [] [.hp 1 0 [] 4 0 0,.hp 17 0 [] 4 0 0,B (a_1.Op != b_2.Op)] [some ⟨0,4,[ah a_1]⟩,some ⟨0,4,[ah b_2]⟩] 129 (by kernel_rfl) ?_
 refine sq h ?_ ?_<;>intro h
 ·refine cq 4 [4] [B false] 145 ?_
  obtain rfl:=sI h
  exact rP [B false]
 ·refine aq 1 ?_
  refine cq 9 [14] [B (!(a_1.Name==b_2.Name))] 209 ?_
  refine sq h ?_ ?_<;>intro h
  ·refine cq 4 [4] [B false] 225 ?_
   obtain rfl:=sI h
   exact rP [B false]
  ·refine aq 1 ?_
   refine cq 9 [19] [B (a_1.Day != b_2.Day)] 289 ?_
   refine sq h ?_ ?_<;>intro h
   ·refine cq 4 [4] [B false] 305 ?_
    obtain rfl:=sI h
    exact rP [B false]
   ·refine aq 1 ?_
    refine cq 7 [21,23] [.isl false (a_1.Parts.map ay),.isl false (b_2.Parts.map ay)] 353 ?_
    obtain⟨r3,hr3,h⟩:=bS h
    refine oq 369 (B r3) rfl (ce rfl rfl (cS rfl rfl rfl (bA (bV rfl) (bA (bV rfl) dB)) (Y0 bf hr3) (.inr rfl) eb rfl rfl rfl)) ?_
    refine cq 2 [25] [B (!r3)] 385 ?_
    refine sq h ?_ ?_<;>intro h
    ·refine cq 4 [4] [B false] 401 ?_
     obtain rfl:=sI h
     exact rP [B false]
    ·refine aq 1 ?_
     refine cq 4 [4] [B true] 401 ?_
     obtain rfl:=sI h
     exact rP [B true]
theorem Pn {G:bR}:bQ G 148 ze:=iG fun bf KG=>gT 2 0 (aJ (Pq bf KG) bq) bX Tryz.func148 (fun a r h=>TP bf a.1 a.2 r h)
def BX:(Clause×Clause)→List V:=cA aj (oA aj)
def BZ (r:Bool):V×List V:=(B r,[])
noncomputable def za :=aZ [false,false] BX BZ fun x=>uY x.1 x.2
theorem Pg {a_1:Clause}{b_2:Clause}{r}(h:uY a_1 b_2=some r):za.F (BX (a_1,b_2))=some (BZ r):=aH (aK cC (aI cC)) h
noncomputable def YV :=aF Tryz.f104
noncomputable def Pf :=bW [(148,ze)]
def YU (x:Clause×Clause)(r:Bool):St→Prop:=QF Pf Tryz.f104 [false,false] (BX x) (BZ r)
theorem TL (a_1:Clause)(b_2:Clause)(r:Bool)(h:uY a_1 b_2=some r):bo Pf Tryz.f104 [false,false] 0 (BX (a_1,b_2)) (BZ r):=by
 show Run _ _ (YU (a_1,b_2) r) [.code YV] _
 refine rI 51 [(0,ao a_1),(1,ao b_2)] [] 1 ?_
 unfold uY at h
 refine ck 15 [2,3,9] [] [1,17] [] [.hp 1 0 [] 12 0 0,.hp 17 0 [] 12 0 0,B (!(a_1.Id==b_2.Id))] [some ⟨0,12,[ao a_1]⟩,some ⟨0,12,[ao b_2]⟩] 129 (by kernel_rfl) ?_
 refine sq h ?_ ?_<;>intro h
 ·refine cq 4 [4] [B false] 145 ?_
  obtain rfl:=sI h
  exact rP [B false]
 ·refine aq 1 ?_
  refine cq 9 [14] [B (a_1.Kind != b_2.Kind)] 209 ?_
  refine sq h ?_ ?_<;>intro h
  ·refine cq 4 [4] [B false] 225 ?_
   obtain rfl:=sI h
   exact rP [B false]
  ·refine aq 1 ?_
   refine cq 9 [19] [B (a_1.Party != b_2.Party)] 289 ?_
   refine sq h ?_ ?_<;>intro h
   ·refine cq 4 [4] [B false] 305 ?_
    obtain rfl:=sI h
    exact rP [B false]
   ·refine aq 1 ?_
    refine cq 9 [24] [B (!(a_1.Action==b_2.Action))] 369 ?_
    refine sq h ?_ ?_<;>intro h
    ·refine cq 4 [4] [B false] 385 ?_
     obtain rfl:=sI h
     exact rP [B false]
    ·refine aq 1 ?_
     refine cq 9 [29] [B (a_1.Other != b_2.Other)] 449 ?_
     refine sq h ?_ ?_<;>intro h
     ·refine cq 4 [4] [B false] 465 ?_
      obtain rfl:=sI h
      exact rP [B false]
     ·refine aq 1 ?_
      refine cq 9 [34] [B (a_1.Amount != b_2.Amount)] 529 ?_
      refine sq h ?_ ?_<;>intro h
      ·refine cq 4 [4] [B false] 545 ?_
       obtain rfl:=sI h
       exact rP [B false]
      ·refine aq 1 ?_
       refine cq 7 [36,38] [ah a_1.When,ah b_2.When] 593 ?_
       obtain⟨r3,hr3,h⟩:=bS h
       refine oq 609 (B r3) rfl (cP (YX hr3)) ?_
       refine cq 2 [40] [B (!r3)] 625 ?_
       refine sq h ?_ ?_<;>intro h
       ·refine cq 4 [4] [B false] 641 ?_
        obtain rfl:=sI h
        exact rP [B false]
       ·refine aq 1 ?_
        refine cq 9 [45] [B (a_1.Within != b_2.Within)] 705 ?_
        refine sq h ?_ ?_<;>intro h
        ·refine cq 4 [4] [B false] 721 ?_
         obtain rfl:=sI h
         exact rP [B false]
        ·refine aq 1 ?_
         refine cq 9 [50] [B (!(a_1.Repair==b_2.Repair))] 785 ?_
         refine sq h ?_ ?_<;>intro h
         ·refine cq 4 [4] [B false] 801 ?_
          obtain rfl:=sI h
          exact rP [B false]
         ·refine aq 1 ?_
          refine cq 4 [4] [B true] 801 ?_
          obtain rfl:=sI h
          exact rP [B true]
theorem Ph {G:bR}:bQ G 104 za:=gT 2 0 (aJ Pn bq) bX Tryz.func104 (fun a r h=>TL a.1 a.2 r h)
def B0:((List Clause)×(List Clause))→List V:=cA (fa aj) (oA (fa aj))
def B1 (r:Bool):V×List V:=(B r,[])
noncomputable def zc :=aZ [false,false] B0 B1 fun x=>zb x.1 x.2
theorem YW {a_1:List Clause}{b_2:List Clause}{r}(h:zb a_1 b_2=some r):zc.F (B0 (a_1,b_2))=some (B1 r):=aH (aK (bv cC) (aI (bv cC))) h
noncomputable def Pj :=aF Tryz.f50
noncomputable def Ji :=bW [(104,za)]
def Pi (x:(List Clause)×(List Clause))(r:Bool):St→Prop:=QF Ji Tryz.f50 [false,false] (B0 x) (B1 r)
theorem Ly (a_1:List Clause)(b_2:List Clause):cX Ji 0 (Pi (a_1,b_2)) (cL (cL (cR (cL (cR (cR Pj)))))) 0 (rM a_1 b_2) (fun u=>(sT 27 [] [] 1)) fun x3=>(sT 27 [(0,.isl false (a_1.map aj)),(1,.isl false (b_2.map aj)),(5,I x3)] [] 1):=eI (xt a_1 b_2) fun {Q K} hK self ih x3 y h hr hn=>by
 unfold l7 at h
 refine cq 5 [11,12] [I x3,.isl false (a_1.map aj)] 33 ?_
 refine oq 49 (I (len a_1)) rfl (br rfl rfl rfl (bC rfl)) ?_
 refine cq 2 [14] [B (decide (x3<(len a_1)))] 65 ?_
 refine sq h ?_ ?_<;>intro h
 ·refine aq 1 ?_
  refine aq 3 ?_
  refine eB [0,0,3,7,0,0,48,112,255,511] rfl (by decide +kernel) ?_
  refine dk 2 [18,17] [I x3,.isl false (a_1.map aj)] ?_
  obtain⟨e4,he4,h⟩:=bS h
  refine dq [] [] (.iptr (ao e4) 0) rfl (au rfl rfl rfl (aV rfl rfl rfl rfl he4)) ?_
  refine dq [] [] (ao e4) rfl (aY rfl rfl) ?_
  refine dk 2 [22,21] [I x3,.isl false (b_2.map aj)] ?_
  obtain⟨e5,he5,h⟩:=bS h
  refine dq [] [] (.iptr (ao e5) 0) rfl (au rfl rfl rfl (aV rfl rfl rfl rfl he5)) ?_
  refine dq [] [] (ao e5) rfl (aY rfl rfl) ?_
  obtain⟨r6,hr6,h⟩:=bS h
  refine dq [] [] (B r6) rfl (cP (Pg hr6)) ?_ (dE rfl rfl rfl rfl (bA (bV rfl) (bA (bV rfl) dB)) (Pg hr6) (.inr rfl) rfl)
  refine dk 1 [26] [B (!r6)] ?_
  refine de 225 rfl rfl ?_
  refine sq h ?_ ?_<;>intro h
  ·refine cq 4 [4] [B false] 241 ?_
   exact ca rfl (hr _ (ai h) _ (qp [B false]))
  ·refine aq 1 ?_
   refine cq 6 [5] [I (az (x3+1))] 273 ?_
   refine dQ ?_
   exact rf [0,1,5] [] (ih _ _ h hr hn :)
 ·refine aq 1 ?_
  exact rf [] [] (hn _ (ai h) :) (hk:=hK)
theorem TM (a_1:List Clause)(b_2:List Clause)(r:Bool)(h:zb a_1 b_2=some r):bo Ji Tryz.f50 [false,false] 0 (B0 (a_1,b_2)) (B1 r):=by
 show Run _ _ (Pi (a_1,b_2) r) [.code Pj] _
 refine rI 27 [(0,.isl false (a_1.map aj)),(1,.isl false (b_2.map aj))] [] 1 ?_
 unfold zb at h
 refine cq 8 [6] [.isl false (a_1.map aj)] 33 ?_
 refine oq 49 (I (len a_1)) rfl (br rfl rfl rfl (bC rfl)) ?_
 refine cq 1 [8] [.isl false (b_2.map aj)] 65 ?_
 refine oq 81 (I (len b_2)) rfl (br rfl rfl rfl (bC rfl)) ?_
 refine cq 2 [10] [B ((len a_1) != (len b_2))] 97 ?_
 refine sq h ?_ ?_<;>intro h
 ·refine cq 4 [4] [B false] 113 ?_
  obtain rfl:=sI h
  exact rP [B false]
 ·refine aq 1 ?_
  refine cq 6 [5] [I (0)] 113 ?_
  obtain⟨y7,hy7,hy71,hy72⟩:=bJ h
  refine cj rfl ?_
  refine rf [0,1,5] [] (Ly a_1 b_2 rfl 0 _ hy7 (fun r' e st hq=>by rw[hy71 r' e] at hq;exact hq) fun u7 hu=>?_)
  replace h:=hy72 u7 hu
  refine cq 4 [4] [B true] 17 ?_
  obtain rfl:=sI h
  exact rP [B true]
theorem Pk {G:bR}:bQ G 50 zc:=gT 2 0 (aJ Ph bq) bX Tryz.func50 (fun a r h=>TM a.1 a.2 r h)
def B4:(Contract×Contract)→List V:=cA aO (oA aO)
def B5 (r:Bool):V×List V:=(B r,[])
noncomputable def zh :=aZ [false,false] B4 B5 fun x=>zg x.1 x.2
theorem Ps {a_1:Contract}{b_2:Contract}{r}(h:zg a_1 b_2=some r):zh.F (B4 (a_1,b_2))=some (B5 r):=aH (aK bb (aI bb)) h
noncomputable def Y2 :=aF Tryz.f17
noncomputable def Pr :=bW [(49,tx),(50,zc)]
def Y1 (x:Contract×Contract)(r:Bool):St→Prop:=QF Pr Tryz.f17 [false,false] (B4 x) (B5 r)
theorem TR (a_1:Contract)(b_2:Contract)(r:Bool)(h:zg a_1 b_2=some r):bo Pr Tryz.f17 [false,false] 0 (B4 (a_1,b_2)) (B5 r):=by
 show Run _ _ (Y1 (a_1,b_2) r) [.code Y2] _
 refine rI 17 [(0,ac a_1),(1,ac b_2)] [] 1 ?_
 unfold zg at h
 refine ck 13 [2,3,6,8] [] [1,17] [] [.hp 1 0 [] 2 0 0,.hp 17 0 [] 2 0 0,.isl false (a_1.Parties.map str),.isl false (b_2.Parties.map str)] [some ⟨0,2,[ac a_1]⟩,some ⟨0,2,[ac b_2]⟩] 113 (by kernel_rfl) ?_
 obtain⟨r3,hr3,h⟩:=bS h
 refine oq 129 (B r3) rfl (cP (PG hr3)) ?_
 refine cq 2 [10] [B (!r3)] 145 ?_
 refine sq h ?_ ?_<;>intro h
 ·refine cq 4 [4] [B false] 161 ?_
  obtain rfl:=sI h
  exact rP [B false]
 ·refine aq 1 ?_
  refine cq 7 [12,14] [.isl false (a_1.Clauses.map aj),.isl false (b_2.Clauses.map aj)] 209 ?_
  obtain⟨r4,hr4,h⟩:=bS h
  refine oq 225 (B r4) rfl (cP (YW hr4)) ?_
  refine cq 2 [16] [B (!r4)] 241 ?_
  refine sq h ?_ ?_<;>intro h
  ·refine cq 4 [4] [B false] 257 ?_
   obtain rfl:=sI h
   exact rP [B false]
  ·refine aq 1 ?_
   refine cq 4 [4] [B true] 257 ?_
   obtain rfl:=sI h
   exact rP [B true]
theorem Pt {G:bR}:bQ G 17 zh:=gT 2 0 (aJ G5 (aJ Pk bq)) bX Tryz.func17 (fun a r h=>TR a.1 a.2 r h)
def B6:(Duty×Duty)→List V:=cA ae (oA ae)
def B7 (r:Bool):V×List V:=(B r,[])
noncomputable def zi :=aZ [false,false] B6 B7 fun x=>vc x.1 x.2
theorem Pv {a_1:Duty}{b_2:Duty}{r}(h:vc a_1 b_2=some r):zi.F (B6 (a_1,b_2))=some (B7 r):=aH (aK dH (aI dH)) h
noncomputable def Y4 :=aF Tryz.f113
noncomputable def Pu :=bW []
def Y3 (x:Duty×Duty)(r:Bool):St→Prop:=QF Pu Tryz.f113 [false,false] (B6 x) (B7 r)
theorem TS (a_1:Duty)(b_2:Duty)(r:Bool)(h:vc a_1 b_2=some r):bo Pu Tryz.f113 [false,false] 0 (B6 (a_1,b_2)) (B7 r):=by
 show Run _ _ (Y3 (a_1,b_2) r) [.code Y4] _
 refine rI 25 [(0,ae a_1),(1,ae b_2)] [] 1 ?_
 unfold vc at h
 refine ck 15 [2,3,9] [] [1,17] [] [.hp 1 0 [] 4 0 0,.hp 17 0 [] 4 0 0,B (a_1.Clause != b_2.Clause)] [some ⟨0,4,[ae a_1]⟩,some ⟨0,4,[ae b_2]⟩] 129 (by kernel_rfl) ?_
 refine sq h ?_ ?_<;>intro h
 ·refine cq 4 [4] [B false] 145 ?_
  obtain rfl:=sI h
  exact rP [B false]
 ·refine aq 1 ?_
  refine cq 9 [14] [B (a_1.Since != b_2.Since)] 209 ?_
  refine sq h ?_ ?_<;>intro h
  ·refine cq 4 [4] [B false] 225 ?_
   obtain rfl:=sI h
   exact rP [B false]
  ·refine aq 1 ?_
   refine cq 9 [19] [B (a_1.Due != b_2.Due)] 289 ?_
   refine sq h ?_ ?_<;>intro h
   ·refine cq 4 [4] [B false] 305 ?_
    obtain rfl:=sI h
    exact rP [B false]
   ·refine aq 1 ?_
    refine cq 9 [24] [B (a_1.Status != b_2.Status)] 369 ?_
    refine sq h ?_ ?_<;>intro h
    ·refine cq 4 [4] [B false] 385 ?_
     obtain rfl:=sI h
     exact rP [B false]
    ·refine aq 1 ?_
     refine cq 4 [4] [B true] 385 ?_
     obtain rfl:=sI h
     exact rP [B true]
theorem Pw {G:bR}:bQ G 113 zi:=gT 2 0 bq bX Tryz.func113 (fun a r h=>TS a.1 a.2 r h)
def B8:((List Duty)×(List Duty))→List V:=cA (fa ae) (oA (fa ae))
def B9 (r:Bool):V×List V:=(B r,[])
noncomputable def zk :=aZ [false,false] B8 B9 fun x=>zj x.1 x.2
theorem Y5 {a_1:List Duty}{b_2:List Duty}{r}(h:zj a_1 b_2=some r):zk.F (B8 (a_1,b_2))=some (B9 r):=aH (aK (bv dH) (aI (bv dH))) h
noncomputable def Py :=aF Tryz.f62
noncomputable def Jk :=bW [(113,zi)]
def Px (x:(List Duty)×(List Duty))(r:Bool):St→Prop:=QF Jk Tryz.f62 [false,false] (B8 x) (B9 r)
theorem LA (a_1:List Duty)(b_2:List Duty):cX Jk 0 (Px (a_1,b_2)) (cL (cL (cR (cL (cR (cR Py)))))) 0 (rO a_1 b_2) (fun u=>(sT 27 [] [] 1)) fun x3=>(sT 27 [(0,.isl false (a_1.map ae)),(1,.isl false (b_2.map ae)),(5,I x3)] [] 1):=eI (xw a_1 b_2) fun {Q K} hK self ih x3 y h hr hn=>by
 unfold l8 at h
 refine cq 5 [11,12] [I x3,.isl false (a_1.map ae)] 33 ?_
 refine oq 49 (I (len a_1)) rfl (br rfl rfl rfl (bC rfl)) ?_
 refine cq 2 [14] [B (decide (x3<(len a_1)))] 65 ?_
 refine sq h ?_ ?_<;>intro h
 ·refine aq 1 ?_
  refine aq 3 ?_
  refine eB [0,0,3,7,0,0,48,112,255,511] rfl (by decide +kernel) ?_
  refine dk 2 [18,17] [I x3,.isl false (a_1.map ae)] ?_
  obtain⟨e4,he4,h⟩:=bS h
  refine dq [] [] (.iptr (ae e4) 0) rfl (au rfl rfl rfl (aV rfl rfl rfl rfl he4)) ?_
  refine dq [] [] (ae e4) rfl (aY rfl rfl) ?_
  refine dk 2 [22,21] [I x3,.isl false (b_2.map ae)] ?_
  obtain⟨e5,he5,h⟩:=bS h
  refine dq [] [] (.iptr (ae e5) 0) rfl (au rfl rfl rfl (aV rfl rfl rfl rfl he5)) ?_
  refine dq [] [] (ae e5) rfl (aY rfl rfl) ?_
  obtain⟨r6,hr6,h⟩:=bS h
  refine dq [] [] (B r6) rfl (cP (Pv hr6)) ?_ (dE rfl rfl rfl rfl (bA (bV rfl) (bA (bV rfl) dB)) (Pv hr6) (.inr rfl) rfl)
  refine dk 1 [26] [B (!r6)] ?_
  refine de 225 rfl rfl ?_
  refine sq h ?_ ?_<;>intro h
  ·refine cq 4 [4] [B false] 241 ?_
   exact ca rfl (hr _ (ai h) _ (qp [B false]))
  ·refine aq 1 ?_
   refine cq 6 [5] [I (az (x3+1))] 273 ?_
   refine dQ ?_
   exact rf [0,1,5] [] (ih _ _ h hr hn :)
 ·refine aq 1 ?_
  exact rf [] [] (hn _ (ai h) :) (hk:=hK)
theorem TU (a_1:List Duty)(b_2:List Duty)(r:Bool)(h:zj a_1 b_2=some r):bo Jk Tryz.f62 [false,false] 0 (B8 (a_1,b_2)) (B9 r):=by
 show Run _ _ (Px (a_1,b_2) r) [.code Py] _
 refine rI 27 [(0,.isl false (a_1.map ae)),(1,.isl false (b_2.map ae))] [] 1 ?_
 unfold zj at h
 refine cq 8 [6] [.isl false (a_1.map ae)] 33 ?_
 refine oq 49 (I (len a_1)) rfl (br rfl rfl rfl (bC rfl)) ?_
 refine cq 1 [8] [.isl false (b_2.map ae)] 65 ?_
 refine oq 81 (I (len b_2)) rfl (br rfl rfl rfl (bC rfl)) ?_
 refine cq 2 [10] [B ((len a_1) != (len b_2))] 97 ?_
 refine sq h ?_ ?_<;>intro h
 ·refine cq 4 [4] [B false] 113 ?_
  obtain rfl:=sI h
  exact rP [B false]
 ·refine aq 1 ?_
  refine cq 6 [5] [I (0)] 113 ?_
  obtain⟨y7,hy7,hy71,hy72⟩:=bJ h
  refine cj rfl ?_
  refine rf [0,1,5] [] (LA a_1 b_2 rfl 0 _ hy7 (fun r' e st hq=>by rw[hy71 r' e] at hq;exact hq) fun u7 hu=>?_)
  replace h:=hy72 u7 hu
  refine cq 4 [4] [B true] 17 ?_
  obtain rfl:=sI h
  exact rP [B true]
theorem Pz {G:bR}:bQ G 62 zk:=gT 2 0 (aJ Pw bq) bX Tryz.func62 (fun a r h=>TU a.1 a.2 r h)
def Ca:((List Int)×(List Int))→List V:=cA (fa I) (oA (fa I))
def Cb (r:Bool):V×List V:=(B r,[])
noncomputable def zm :=aZ [false,false] Ca Cb fun x=>zl x.1 x.2
theorem Y6 {a_1:List Int}{b_2:List Int}{r}(h:zl a_1 b_2=some r):zm.F (Ca (a_1,b_2))=some (Cb r):=aH (aK (bv bz) (aI (bv bz))) h
noncomputable def PB :=aF Tryz.f16
noncomputable def Jl :=bW []
def PA (x:(List Int)×(List Int))(r:Bool):St→Prop:=QF Jl Tryz.f16 [false,false] (Ca x) (Cb r)
theorem LB (a_1:List Int)(b_2:List Int):cX Jl 0 (PA (a_1,b_2)) (cL (cL (cR (cL (cR (cR PB)))))) 0 (rQ a_1 b_2) (fun u=>(sT 26 [] [] 1)) fun x3=>(sT 26 [(0,.isl false (a_1.map I)),(1,.isl false (b_2.map I)),(5,I x3)] [] 1):=eI (xy a_1 b_2) fun {Q K} hK self ih x3 y h hr hn=>by
 unfold l9 at h
 refine cq 5 [11,12] [I x3,.isl false (a_1.map I)] 33 ?_
 refine oq 49 (I (len a_1)) rfl (br rfl rfl rfl (bC rfl)) ?_
 refine cq 2 [14] [B (decide (x3<(len a_1)))] 65 ?_
 refine sq h ?_ ?_<;>intro h
 ·refine aq 1 ?_
  refine aq 3 ?_
  refine eB [0,0,3,7,0,0,48,112,255] rfl (by decide +kernel) ?_
  refine dk 2 [18,17] [I x3,.isl false (a_1.map I)] ?_
  obtain⟨e4,he4,h⟩:=bS h
  refine dq [] [] (.iptr (I e4) 0) rfl (au rfl rfl rfl (aV rfl rfl rfl rfl he4)) ?_
  refine dq [] [] (I e4) rfl (aY rfl rfl) ?_
  refine dk 2 [22,21] [I x3,.isl false (b_2.map I)] ?_
  obtain⟨e5,he5,h⟩:=bS h
  refine dq [] [] (.iptr (I e5) 0) rfl (au rfl rfl rfl (aV rfl rfl rfl rfl he5)) ?_
  refine dq [] [] (I e5) rfl (aY rfl rfl) ?_
  refine dk 1 [25] [B (e4 != e5)] ?_
  refine de 209 rfl rfl ?_
  refine sq h ?_ ?_<;>intro h
  ·refine cq 4 [4] [B false] 225 ?_
   exact ca rfl (hr _ (ai h) _ (qp [B false]))
  ·refine aq 1 ?_
   refine cq 6 [5] [I (az (x3+1))] 257 ?_
   refine dQ ?_
   exact rf [0,1,5] [] (ih _ _ h hr hn :)
 ·refine aq 1 ?_
  exact rf [] [] (hn _ (ai h) :) (hk:=hK)
theorem TV (a_1:List Int)(b_2:List Int)(r:Bool)(h:zl a_1 b_2=some r):bo Jl Tryz.f16 [false,false] 0 (Ca (a_1,b_2)) (Cb r):=by
 show Run _ _ (PA (a_1,b_2) r) [.code PB] _
 refine rI 26 [(0,.isl false (a_1.map I)),(1,.isl false (b_2.map I))] [] 1 ?_
 unfold zl at h
 refine cq 8 [6] [.isl false (a_1.map I)] 33 ?_
 refine oq 49 (I (len a_1)) rfl (br rfl rfl rfl (bC rfl)) ?_
 refine cq 1 [8] [.isl false (b_2.map I)] 65 ?_
 refine oq 81 (I (len b_2)) rfl (br rfl rfl rfl (bC rfl)) ?_
 refine cq 2 [10] [B ((len a_1) != (len b_2))] 97 ?_
 refine sq h ?_ ?_<;>intro h
 ·refine cq 4 [4] [B false] 113 ?_
  obtain rfl:=sI h
  exact rP [B false]
 ·refine aq 1 ?_
  refine cq 6 [5] [I (0)] 113 ?_
  obtain⟨y6,hy6,hy61,hy62⟩:=bJ h
  refine cj rfl ?_
  refine rf [0,1,5] [] (LB a_1 b_2 rfl 0 _ hy6 (fun r' e st hq=>by rw[hy61 r' e] at hq;exact hq) fun u6 hu=>?_)
  replace h:=hy62 u6 hu
  refine cq 4 [4] [B true] 17 ?_
  obtain rfl:=sI h
  exact rP [B true]
theorem PC {G:bR}:bQ G 16 zm:=gT 2 0 bq bX Tryz.func16 (fun a r h=>TV a.1 a.2 r h)
def Cc:(State×State)→List V:=cA b9 (oA b9)
def Cd (r:Bool):V×List V:=(B r,[])
noncomputable def zo :=aZ [false,false] Cc Cd fun x=>zn x.1 x.2
theorem PE {a_1:State}{b_2:State}{r}(h:zn a_1 b_2=some r):zo.F (Cc (a_1,b_2))=some (Cd r):=aH (aK cZ (aI cZ)) h
noncomputable def Y8 :=aF Tryz.f25
noncomputable def PD :=bW [(49,tx),(62,zk),(16,zm)]
def Y7 (x:State×State)(r:Bool):St→Prop:=QF PD Tryz.f25 [false,false] (Cc x) (Cd r)
theorem TW (a_1:State)(b_2:State)(r:Bool)(h:zn a_1 b_2=some r):bo PD Tryz.f25 [false,false] 0 (Cc (a_1,b_2)) (Cd r):=by
 show Run _ _ (Y7 (a_1,b_2) r) [.code Y8] _
 refine rI 33 [(0,ak a_1),(1,ak b_2)] [] 1 ?_
 unfold zn at h
 refine ck 15 [2,3,9] [] [1,17] [] [.hp 1 0 [] 5 0 0,.hp 17 0 [] 5 0 0,B (a_1.Day != b_2.Day)] [some ⟨0,5,[ak a_1]⟩,some ⟨0,5,[ak b_2]⟩] 129 (by kernel_rfl) ?_
 refine sq h ?_ ?_<;>intro h
 ·refine cq 4 [4] [B false] 145 ?_
  obtain rfl:=sI h
  exact rP [B false]
 ·refine aq 1 ?_
  refine cq 7 [11,13] [.isl false (a_1.Facts.map str),.isl false (b_2.Facts.map str)] 193 ?_
  obtain⟨r3,hr3,h⟩:=bS h
  refine oq 209 (B r3) rfl (cP (PG hr3)) ?_
  refine cq 2 [15] [B (!r3)] 225 ?_
  refine sq h ?_ ?_<;>intro h
  ·refine cq 4 [4] [B false] 241 ?_
   obtain rfl:=sI h
   exact rP [B false]
  ·refine aq 1 ?_
   refine cq 7 [17,19] [.isl false (a_1.Duties.map ae),.isl false (b_2.Duties.map ae)] 289 ?_
   obtain⟨r4,hr4,h⟩:=bS h
   refine oq 305 (B r4) rfl (cP (Y5 hr4)) ?_
   refine cq 2 [21] [B (!r4)] 321 ?_
   refine sq h ?_ ?_<;>intro h
   ·refine cq 4 [4] [B false] 337 ?_
    obtain rfl:=sI h
    exact rP [B false]
   ·refine aq 1 ?_
    refine cq 7 [23,25] [.isl false (a_1.Balances.map I),.isl false (b_2.Balances.map I)] 385 ?_
    obtain⟨r5,hr5,h⟩:=bS h
    refine oq 401 (B r5) rfl (cP (Y6 hr5)) ?_
    refine cq 2 [27] [B (!r5)] 417 ?_
    refine sq h ?_ ?_<;>intro h
    ·refine cq 4 [4] [B false] 433 ?_
     obtain rfl:=sI h
     exact rP [B false]
    ·refine aq 1 ?_
     refine cq 9 [32] [B (!(a_1.Over==b_2.Over))] 497 ?_
     refine sq h ?_ ?_<;>intro h
     ·refine cq 4 [4] [B false] 513 ?_
      obtain rfl:=sI h
      exact rP [B false]
     ·refine aq 1 ?_
      refine cq 4 [4] [B true] 513 ?_
      obtain rfl:=sI h
      exact rP [B true]
theorem PF {G:bR}:bQ G 25 zo:=gT 2 0 (aJ G5 (aJ Pz (aJ PC bq))) bX Tryz.func25 (fun a r h=>TW a.1 a.2 r h)
def fJ:(Contract×State×Int×aa)→List V:=cA aO (cA b9 (cA I (oA str)))
def fK (r:Bool):V×List V:=(B r,[])
noncomputable def gE :=aZ [false,false,false,false] fJ fK fun x=>eC x.1 x.2.1 x.2.2.1 x.2.2.2
theorem pC {jv:Contract}{jw:State}{gj:Int}{eU:aa}{r}(h:eC jv jw gj eU=some r):gE.F (fJ (jv,jw,gj,eU))=some (fK r):=aH (aK bb (aK cZ (aK bz (aI ba)))) h
noncomputable def fM :=aF Tryz.f5
noncomputable def gU :=bW [(12,zx),(21,zD),(14,zK),(23,zQ),(26,An),(27,FW),(17,zh),(25,zo)]
def kg (x:Contract×State×Int×aa)(r:Bool):St→Prop:=QF gU Tryz.f5 [false,false,false,false] (fJ x) (fK r)
theorem oZ (jv:Contract)(jw:State)(gj:Int)(eU:aa)(r:Bool)(h:eC jv jw gj eU=some r):bo gU Tryz.f5 [false,false,false,false] 0 (fJ (jv,jw,gj,eU)) (fK r):=by
 show Run _ _ (kg (jv,jw,gj,eU) r) [.code fM] _
 refine rI 69 [(0,aO jv),(1,b9 jw),(2,I gj),(3,str eU)] [] 1 ?_
 unfold eC at h
 refine ck 13 [4,5,18] [] [1,17] [] [.hp 1 0 [] 2 0 0,.hp 17 0 [] 5 0 0,B (decide ((len eU)>1048576))] [some ⟨0,2,[aO jv]⟩,some ⟨0,5,[b9 jw]⟩] 97 (by kernel_rfl) ?_
 refine sq h ?_ ?_<;>intro h
 ·refine cq 4 [8] [B true] 113 ?_
  obtain rfl:=sI h
  exact rP [B true]
 ·refine aq 1 ?_
  refine cq 8 [19,20] [aO jv,I (1048576)] 145 ?_
  obtain⟨r5,hr5,h⟩:=bS h
  refine oq 161 (I r5) rfl (cP (Zh hr5)) ?_
  refine cq 8 [9,23] [I r5,B (decide (r5<0))] 209 ?_
  refine sq h ?_ ?_<;>intro h
  ·refine cq 4 [8] [B true] 225 ?_
   obtain rfl:=sI h
   exact rP [B true]
  ·refine aq 1 ?_
   refine cq 4 [24,25] [b9 jw,I r5] 241 ?_
   obtain⟨r6,hr6,h⟩:=bS h
   refine oq 257 (I r6) rfl (cP (Zq hr6)) ?_
   refine ck 8 [28] [9] [] [] [B (decide (r6<0))] [] 305 (by kernel_rfl) ?_
   refine sq h ?_ ?_<;>intro h
   ·refine cq 4 [8] [B true] 321 ?_
    obtain rfl:=sI h
    exact rP [B true]
   ·refine aq 1 ?_
    refine aq 1 ?_
    refine eB [0,1,0,7,0,0,63,127,255,255,511,2047] rfl (by decide +kernel) ?_
    refine dq [1] [] (aO jv) rfl (aY rfl rfl) ?_
    obtain⟨r7,hr7,h⟩:=bS h
    refine dq [] [] (.agg [.hs 321 0 [] 1 0 (r7.Parties.map str).length,.hs 322 0 [] 12 0 (r7.Clauses.map aQ).length]) rfl (cP (vn hr7)) ?_ (dE rfl rfl rfl rfl (bA (bV rfl) dB) (vn hr7) (.inr rfl) rfl)
    refine dq [17] [] (b9 jw) rfl (aY rfl rfl) ?_
    obtain⟨r8,hr8,h⟩:=bS h
    refine dq [] [] (.agg [I r8.Day,.hs 353 0 [] 1 0 (r8.Facts.map str).length,.hs 354 0 [] 4 0 (r8.Duties.map ae).length,.hs 355 0 [] 1 0 (r8.Balances.map I).length,B r8.Over]) rfl (cP (vp hr8)) ?_ (dE rfl rfl rfl rfl (bA (bV rfl) dB) (vp hr8) (.inr rfl) rfl)
    refine dk 2 [35,34] [str eU,I gj] ?_
    obtain⟨r9,hr9,h⟩:=bS h
    refine dq [321,322,353,354,355] [] (.tup [B r9.1,B r9.2]) rfl (ce rfl rfl (cS rfl rfl rfl (bA (qB (d7 (fp (f:=str) (g:=str) (xs:=r7.Parties) rfl rfl (cf fk)) (d7 (fp (f:=aQ) (g:=aj) (xs:=r7.Clauses) rfl rfl (cf fW)) lw))) (bA (qB (d7 (jg rfl) (d7 (fp (f:=str) (g:=str) (xs:=r8.Facts) rfl rfl (cf fk)) (d7 (fp (f:=ae) (g:=ae) (xs:=r8.Duties) rfl rfl (cf gA)) (d7 (fp (f:=I) (g:=I) (xs:=r8.Balances) rfl rfl (cf qN)) (d7 (jg rfl) lw)))))) (bA (bV rfl) (bA (bV rfl) dB)))) (Ra hr9) (.inl rfl) eb rfl rfl rfl)) ?_ (dE rfl rfl rfl rfl (bA (qB (d7 (fp (f:=str) (g:=str) (xs:=r7.Parties) rfl rfl (cf fk)) (d7 (fp (f:=aQ) (g:=aj) (xs:=r7.Clauses) rfl rfl (cf fW)) lw))) (bA (qB (d7 (jg rfl) (d7 (fp (f:=str) (g:=str) (xs:=r8.Facts) rfl rfl (cf fk)) (d7 (fp (f:=ae) (g:=ae) (xs:=r8.Duties) rfl rfl (cf gA)) (d7 (fp (f:=I) (g:=I) (xs:=r8.Balances) rfl rfl (cf qN)) (d7 (jg rfl) lw)))))) (bA (bV rfl) (bA (bV rfl) dB)))) (Ra hr9) (.inl rfl) rfl)
    refine dk 5 [11,10,38,37,29] [B r9.2,B r9.1,B r9.2,B r9.1,.tup [B r9.1,B r9.2]] ?_
    refine de 497 rfl rfl ?_
    refine cq 3 [39] [aO jv] 513 ?_
    obtain⟨r10,hr10,h⟩:=bS h
    refine oq 529 (.agg [.hs 513 0 [] 1 0 (r10.Parties.map str).length,.hs 514 0 [] 12 0 (r10.Clauses.map aQ).length]) rfl (cP (vn hr10)) ?_
    refine ck 1 [12] [] [529] [] [.hp 529 0 [] 2 0 0] [some ⟨0,2,[.agg [.isl true [],.isl true []]]⟩] 545 (by kernel_rfl) ?_
    refine eM 529 [.agg [.usl 1 (([]).map str),.usl 12 (([]).map aQ)]] rfl rfl (aD (fF (aD (.nil _) (aD (.nil _) dU))) dU) ?_
    refine o0 561 rfl rfl (gy rfl rfl (fu (path:=[]) (pl:=false) (e':=.agg [.usl 1 (r10.Parties.map str),.usl 12 (r10.Clauses.map aQ)]) (es2':=[.agg [.usl 1 (r10.Parties.map str),.usl 12 (r10.Clauses.map aQ)]]) rfl (lx (bK (cQ rfl rfl) (bK (cQ rfl rfl) ly))) rfl rfl rfl bc rfl rfl rfl rfl rfl d9 2 rfl)) ?_
    refine cq 4 [41] [b9 jw] 577 ?_
    obtain⟨r11,hr11,h⟩:=bS h
    refine oq 593 (.agg [I r11.Day,.hs 577 0 [] 1 0 (r11.Facts.map str).length,.hs 578 0 [] 4 0 (r11.Duties.map ae).length,.hs 579 0 [] 1 0 (r11.Balances.map I).length,B r11.Over]) rfl (cP (vp hr11)) ?_
    refine ck 1 [13] [] [593] [] [.hp 593 0 [] 5 0 0] [some ⟨0,5,[.agg [I (0),.isl true [],.isl true [],.isl true [],B false]]⟩] 609 (by kernel_rfl) ?_
    refine eM 593 [.agg [I (0),.usl 1 (([]).map str),.usl 4 (([]).map ae),.usl 1 (([]).map I),B false]] rfl rfl (aD (fF (aD (.refl _) (aD (.nil _) (aD (.nil _) (aD (.nil _) (aD (.refl _) dU)))))) dU) ?_
    refine o0 625 rfl rfl (gy rfl rfl (fu (path:=[]) (pl:=false) (e':=.agg [I r11.Day,.usl 1 (r11.Facts.map str),.usl 4 (r11.Duties.map ae),.usl 1 (r11.Balances.map I),B r11.Over]) (es2':=[.agg [I r11.Day,.usl 1 (r11.Facts.map str),.usl 4 (r11.Duties.map ae),.usl 1 (r11.Balances.map I),B r11.Over]]) rfl (lx (bK (cp rfl) (bK (cQ rfl rfl) (bK (cQ rfl rfl) (bK (cQ rfl rfl) (bK (cp rfl) ly)))))) rfl rfl rfl bc rfl rfl rfl rfl rfl d9 2 rfl)) ?_
    refine cq 7 [44,45,46,47] [.agg [.hs 529 2 [(0,0)] 1 0 (r10.Parties.map str).length,.hs 529 2 [(0,1)] 12 0 (r10.Clauses.map aQ).length],.agg [I r11.Day,.hs 593 2 [(0,1)] 1 0 (r11.Facts.map str).length,.hs 593 2 [(0,2)] 4 0 (r11.Duties.map ae).length,.hs 593 2 [(0,3)] 1 0 (r11.Balances.map I).length,B r11.Over],I gj,str eU] 689 ?_
    obtain⟨r12,hr12,h⟩:=bS h
    refine oq 705 (.tup [B r12.1,B r12.2]) rfl (ce rfl rfl (cS rfl rfl rfl (bA (qB (d7 (jF (path:=[(0,0)]) rfl rfl (eY rfl rfl bc) rfl (cf (f:=str) fk)) (d7 (jF (path:=[(0,1)]) rfl rfl (eY rfl rfl bc) rfl (cf (f:=aQ) fW)) lw))) (bA (qB (d7 (jg rfl) (d7 (jF (path:=[(0,1)]) rfl rfl (eY rfl rfl bc) rfl (cf (f:=str) fk)) (d7 (jF (path:=[(0,2)]) rfl rfl (eY rfl rfl bc) rfl (cf (f:=ae) gA)) (d7 (jF (path:=[(0,3)]) rfl rfl (eY rfl rfl bc) rfl (cf (f:=I) qN)) (d7 (jg rfl) lw)))))) (bA (bV rfl) (bA (bV rfl) dB)))) (abj hr12) (.inl rfl) eb rfl rfl rfl)) ?_
    refine cq 13 [15,54] [B r12.2,B (!(r12.1==r9.1))] 849 ?_
    obtain⟨u13,hu13,h⟩:=lJ h
    have j13:Run gU 0 (kg (jv,jw,gj,eU) r) (.code (cR (cL (cR (cR (cR (cR (cR (cR (cR (cR (cR (cR (cR fM)))))))))))))::.code (cR (cR (cR (cR (cR (cR (cR (cR (cR (cR (cR (cR fM))))))))))))::[]) (sT 69 [(4,.hp 1 0 [] 2 0 0),(5,.hp 2 0 [] 5 0 0),(12,.hp 3 0 [] 2 0 0),(13,.hp 4 0 [] 5 0 0),(58,B u13)] [⟨0,2,[aO jv]⟩,⟨0,5,[b9 jw]⟩,⟨0,2,[.agg [.usl 1 (r10.Parties.map str),.usl 12 (r10.Clauses.map aQ)]]⟩,⟨0,5,[.agg [I r11.Day,.usl 1 (r11.Facts.map str),.usl 4 (r11.Duties.map ae),.usl 1 (r11.Balances.map I),B r11.Over]]⟩] 5):=by
     refine sq h ?_ ?_<;>intro h
     ·refine cq 4 [8] [B false] 21 ?_
      obtain rfl:=sI h
      exact rP [B false]
     ·refine aq 1 ?_
      refine aq 2 ?_
      refine eB [0,0,2,7,15] rfl (by decide +kernel) ?_
      refine dq [3] [] (.agg [.hs 3 0 [(0,0)] 1 0 (r10.Parties.map str).length,.hs 3 0 [(0,1)] 12 0 (r10.Clauses.map aQ).length]) rfl (aY rfl rfl) ?_
      refine dq [1] [] (aO jv) rfl (aY rfl rfl) ?_
      obtain⟨r14,hr14,h⟩:=bS h
      refine dq [] [] (.agg [.hs 37 0 [] 1 0 (r14.Parties.map str).length,.hs 38 0 [] 12 0 (r14.Clauses.map aQ).length]) rfl (cP (vn hr14)) ?_ (dE rfl rfl rfl rfl (bA (bV rfl) dB) (vn hr14) (.inr rfl) rfl)
      obtain⟨r15,hr15,h⟩:=bS h
      refine dq [3,3,37,38] [] (B r15) rfl (ce rfl rfl (cS rfl rfl rfl (bA (qB (d7 (jF (path:=[(0,0)]) rfl rfl (eY rfl rfl bc) rfl (cf (f:=str) fk)) (d7 (jF (path:=[(0,1)]) rfl rfl (eY rfl rfl bc) rfl (cf (f:=aQ) fW)) lw))) (bA (qB (d7 (fp (f:=str) (g:=str) (xs:=r14.Parties) rfl rfl (cf fk)) (d7 (fp (f:=aQ) (g:=aj) (xs:=r14.Clauses) rfl rfl (cf fW)) lw))) dB)) (Ps hr15) (.inl rfl) eb rfl rfl rfl)) ?_ (dE rfl rfl rfl rfl (bA (qB (d7 (jF (path:=[(0,0)]) rfl rfl (eY rfl rfl bc) rfl (cf (f:=str) fk)) (d7 (jF (path:=[(0,1)]) rfl rfl (eY rfl rfl bc) rfl (cf (f:=aQ) fW)) lw))) (bA (qB (d7 (fp (f:=str) (g:=str) (xs:=r14.Parties) rfl rfl (cf fk)) (d7 (fp (f:=aQ) (g:=aj) (xs:=r14.Clauses) rfl rfl (cf fW)) lw))) dB)) (Ps hr15) (.inl rfl) rfl)
      refine dk 1 [63] [B (!r15)] ?_
      refine de 85 rfl rfl ?_
      refine sq h ?_ ?_<;>intro h
      ·refine cq 4 [8] [B false] 101 ?_
       obtain rfl:=sI h
       exact rP [B false]
      ·refine aq 1 ?_
       refine aq 2 ?_
       refine eB [0,0,2,7,15] rfl (by decide +kernel) ?_
       refine dq [4] [] (.agg [I r11.Day,.hs 4 0 [(0,1)] 1 0 (r11.Facts.map str).length,.hs 4 0 [(0,2)] 4 0 (r11.Duties.map ae).length,.hs 4 0 [(0,3)] 1 0 (r11.Balances.map I).length,B r11.Over]) rfl (aY rfl rfl) ?_
       refine dq [2] [] (b9 jw) rfl (aY rfl rfl) ?_
       obtain⟨r16,hr16,h⟩:=bS h
       refine dq [] [] (.agg [I r16.Day,.hs 117 0 [] 1 0 (r16.Facts.map str).length,.hs 118 0 [] 4 0 (r16.Duties.map ae).length,.hs 119 0 [] 1 0 (r16.Balances.map I).length,B r16.Over]) rfl (cP (vp hr16)) ?_ (dE rfl rfl rfl rfl (bA (bV rfl) dB) (vp hr16) (.inr rfl) rfl)
       obtain⟨r17,hr17,h⟩:=bS h
       refine dq [4,4,4,117,118,119] [] (B r17) rfl (ce rfl rfl (cS rfl rfl rfl (bA (qB (d7 (jg rfl) (d7 (jF (path:=[(0,1)]) rfl rfl (eY rfl rfl bc) rfl (cf (f:=str) fk)) (d7 (jF (path:=[(0,2)]) rfl rfl (eY rfl rfl bc) rfl (cf (f:=ae) gA)) (d7 (jF (path:=[(0,3)]) rfl rfl (eY rfl rfl bc) rfl (cf (f:=I) qN)) (d7 (jg rfl) lw)))))) (bA (qB (d7 (jg rfl) (d7 (fp (f:=str) (g:=str) (xs:=r16.Facts) rfl rfl (cf fk)) (d7 (fp (f:=ae) (g:=ae) (xs:=r16.Duties) rfl rfl (cf gA)) (d7 (fp (f:=I) (g:=I) (xs:=r16.Balances) rfl rfl (cf qN)) (d7 (jg rfl) lw)))))) dB)) (PE hr17) (.inl rfl) eb rfl rfl rfl)) ?_ (dE rfl rfl rfl rfl (bA (qB (d7 (jg rfl) (d7 (jF (path:=[(0,1)]) rfl rfl (eY rfl rfl bc) rfl (cf (f:=str) fk)) (d7 (jF (path:=[(0,2)]) rfl rfl (eY rfl rfl bc) rfl (cf (f:=ae) gA)) (d7 (jF (path:=[(0,3)]) rfl rfl (eY rfl rfl bc) rfl (cf (f:=I) qN)) (d7 (jg rfl) lw)))))) (bA (qB (d7 (jg rfl) (d7 (fp (f:=str) (g:=str) (xs:=r16.Facts) rfl rfl (cf fk)) (d7 (fp (f:=ae) (g:=ae) (xs:=r16.Duties) rfl rfl (cf gA)) (d7 (fp (f:=I) (g:=I) (xs:=r16.Balances) rfl rfl (cf qN)) (d7 (jg rfl) lw)))))) dB)) (PE hr17) (.inl rfl) rfl)
       refine dk 1 [68] [B (!r17)] ?_
       refine de 165 rfl rfl ?_
       refine sq h ?_ ?_<;>intro h
       ·refine cq 4 [8] [B false] 181 ?_
        obtain rfl:=sI h
        exact rP [B false]
       ·refine aq 1 ?_
        refine cq 4 [8] [B true] 181 ?_
        obtain rfl:=sI h
        exact rP [B true]
    replace h:=hu13
    clear hu13
    refine sp 54 h rfl ?_ ?_<;>intro h
    ·refine cq 5 [58] [B true] 913 ?_
     subst h
     exact rf [4,5,12,13,58] [1,17,529,593] (j13 :)
    ·refine cq 5 [58] [B (!(r12.2==r9.2))] 913 ?_
     subst h
     exact rf [4,5,12,13,58] [1,17,529,593] (j13 :)
theorem ob {G:bR}:bQ G 5 gE:=gT 4 0 (aJ PU (aJ P0 (aJ Qf (aJ Qp (aJ Rb (aJ Ty (aJ Pt (aJ PF bq)))))))) bX Tryz.func5 (fun a r h=>oZ a.1 a.2.1 a.2.2.1 a.2.2.2 r h)
end Go.Ln
