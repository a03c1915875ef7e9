/-
  The walks.
-/
import Derived.Test.YtcfddlacocdpoaaGreatDoorFnExactDuesOfRunA
set_option maxHeartbeats 4000000
set_option linter.unusedVariables false
set_option linter.unusedSimpArgs false
set_option maxRecDepth 100000
namespace Go.Ln
open Go Go.Proofs
theorem acM (c_1:Contract)(r:(List ae))(h:yH c_1=some r):br Sj Tryz.f101 [false] 0 (Mh c_1) (Mi r):=by
 show Run _ _ (abU c_1 r) [.code abV] _
 refine rI 25 [(0,aa c_1)] [] 1 ?_
 unfold yH at h
 refine ck 7 [1] [] [1] [] [.hp 1 0 [] 2 0 0] [some ⟨0,2,[aa c_1]⟩] 33 (by kernel_rfl) ?_
 refine oq 49 (.hs 33 0 [] 1 0 0) rfl (eM rfl (kI (f:=I) (xs:=[]) (z:=str ([])) (es:=[]) (ws:=[]) rfl rfl rfl (by decide) rfl (dY rfl) rfl)) ?_
 refine cq 7 [3,8] [.hs 33 0 [] 1 0 0,.isl false (c_1.Clauses.map au)] 97 ?_
 refine oq 113 (I (len c_1.Clauses)) rfl (bw rfl rfl rfl (bN rfl)) ?_
 refine cq 3 [10] [I (0)] 129 ?_
 obtain⟨y6,hy6,hy61,hy62⟩:=bJ h
 refine bO rfl ?_
 refine rf [3,8,9,10] [33] (Sk c_1 rfl (0,[]) _ hy6 (fun r' e st hq=>by rw[hy61 r' e] at hq;exact hq) fun u6 hu=>?_)
 replace h:=hy62 u6 hu
 refine cq 3 [23] [.hs 1 0 [] 1 0 (u6.map str).length] 18 ?_
 obtain⟨r7,hr7,h⟩:=bS h
 refine oq 34 (.hs 18 0 [] 1 0 (r7.map str).length) rfl (bG rfl rfl (bX rfl rfl rfl (iC (iH rfl (eO (path:=[]) rfl rfl aE rfl)) cX) (adU hr7) (.inr rfl) (gI rfl rfl rfl mS dF) rfl rfl rfl)) ?_
 refine cq 2 [2] [.hs 18 0 [] 1 0 (r7.map str).length] 50 ?_
 obtain rfl:=sI h
 exact b8 rfl ⟨_,fin (vs:=[.hs 18 0 [] 1 0 (r7.map str).length]) rfl (eV (fZ rfl (dx rfl rfl)) dU) rfl (cu eN),eH⟩
theorem NY {G:b7}:bZ G 101 zN:=gT 1 0 (aO aah (aO Tx bv)) cf Tryz.func101 (fun a r h=>acM a r h)
def LQ:Contract→List V:=oA aP
def LS (r:Bool):V×List V:=(B r,[])
noncomputable def JL :=bi [false] LQ LS fun x=>NA x
theorem agL {c_1:Contract}{r}(h:NA c_1=some r):JL.F (LQ c_1)=some (LS r):=aJ (aK bb) h
noncomputable def LT :=aH Tryz.f47
noncomputable def LR :=ce [(98,JS),(100,J0),(101,zN),(99,je)]
def Hg (x:Contract)(r:Bool):St→Prop:=QF LR Tryz.f47 [false] (LQ x) (LS r)
theorem R3 (c_1:Contract):cj LR 0 (Hg c_1) (cL (cL (cR (cL (cR (cR LT)))))) 0 (pe c_1) (fun u=>(sT 30 [(1,.hp 1 0 [] 2 0 0)] [⟨0,2,[aa c_1]⟩] 2)) fun x4=>(sT 30 [(1,.hp 1 0 [] 2 0 0),(17,I (len c_1.Clauses)),(18,I x4)] [⟨0,2,[aa c_1]⟩] 2):=ef (Hh c_1) fun {Q K} hK self ih x4 y h hr hn=>by
 unfold nK at h
 refine cq 5 [19] [B (decide (x4<(len c_1.Clauses)))] 18 ?_
 refine sq h ?_ ?_<;>intro h
 ·refine aq 1 ?_
  refine cq 11 [21,22] [aa c_1,I x4] 82 ?_
  obtain⟨r5,hr5,h⟩:=bS h
  refine oq 98 (B r5) rfl (cP (ag5 hr5)) ?_
  refine cq 2 [24] [B (!r5)] 114 ?_
  refine sq h ?_ ?_<;>intro h
  ·refine cq 4 [2] [B false] 130 ?_
   exact b8 rfl (hr _ (an h) _ (qp [B false]))
  ·refine aq 1 ?_
   refine cq 5 [18] [I (ac (x4+1))] 146 ?_
   refine cY ?_
   exact rf [1,17,18] [1] (ih _ _ h hr hn :)
 ·refine aq 1 ?_
  exact rf [1] [1] (hn _ (an h) :) (hk:=hK)
theorem acu (c_1:Contract)(r:Bool)(h:NA c_1=some r):br LR Tryz.f47 [false] 0 (LQ c_1) (LS r):=by
 show Run _ _ (Hg c_1 r) [.code LT] _
 refine rI 30 [(0,aa c_1)] [] 1 ?_
 unfold NA at h
 refine ck 10 [1,5] [] [1] [] [.hp 1 0 [] 2 0 0,.isl false (c_1.Parties.map str)] [some ⟨0,2,[aa c_1]⟩] 65 (by kernel_rfl) ?_
 obtain⟨r2,hr2,h⟩:=bS h
 refine oq 81 (B r2) rfl (cP (agN hr2)) ?_
 refine cq 2 [8] [B (!r2)] 113 ?_
 obtain⟨y3,hy3,hy31,hy32⟩:=bJ h
 have j3:∀u3,y3=.inr u3→Run LR 0 (Hg c_1 r) (.code (cR (cL (cR LT)))::.code (cR (cR LT))::[]) (sT 30 [(1,.hp 1 0 [] 2 0 0),(14,B u3)] [⟨0,2,[aa c_1]⟩] 2):=by
  intro u3 hu
  replace h:=hy32 u3 hu
  refine sq h ?_ ?_<;>intro h
  ·refine cq 4 [2] [B false] 18 ?_
   obtain rfl:=sI h
   exact rP [B false]
  ·refine aq 1 ?_
   refine cq 5 [16] [.isl false (c_1.Clauses.map au)] 34 ?_
   refine oq 50 (I (len c_1.Clauses)) rfl (bw rfl rfl rfl (bN rfl)) ?_
   refine cq 3 [18] [I (0)] 66 ?_
   obtain⟨y6,hy6,hy61,hy62⟩:=bJ h
   refine bO rfl ?_
   refine rf [1,17,18] [1] (R3 c_1 rfl 0 _ hy6 (fun r' e st hq=>by rw[hy61 r' e] at hq;exact hq) fun u6 hu=>?_)
   replace h:=hy62 u6 hu
   refine cq 3 [26] [aa c_1] 18 ?_
   obtain⟨r7,hr7,h⟩:=bS h
   refine oq 34 (.hs 18 0 [] 1 0 (r7.map str).length) rfl (cP (abT hr7)) ?_
   refine oq 50 (I (len r7)) rfl (bw rfl rfl rfl (nG (f:=str) (xs:=r7) rfl rfl)) ?_
   refine cq 3 [2] [B (decide ((len r7)≤16))] 82 ?_
   obtain rfl:=sI h
   exact rP [B (decide ((len r7)≤16))]
 have r3:∀r',y3=.inl r'→∀st,Hg c_1 r' st→(Hg c_1 r) st:=fun r' e st hq=>by rw[hy31 r' e] at hq;exact hq
 replace h:=hy3
 refine sp 8 h rfl ?_ ?_<;>intro h
 ·refine cq 7 [14] [B true] 209 ?_
  exact rf [1,14] [1] (j3 _ (an h) :)
 ·refine cq 2 [10] [.isl false (c_1.Clauses.map au)] 145 ?_
  refine oy 161 (I (len c_1.Clauses)) rfl (bw rfl rfl rfl (bN rfl)) ?_
  obtain⟨r8,hr8,h⟩:=bS h
  refine oy 177 (B r8) rfl (cP (jd hr8)) ?_
  refine cq 3 [14] [B (!r8)] 209 ?_
  exact rf [1,14] [1] (j3 _ (an h) :)
theorem ZQ {G:b7}:bZ G 47 JL:=gT 1 0 (aO aai (aO aaq (aO NY (aO ju bv)))) cf Tryz.func47 (fun a r h=>acu a r h)
def Mx:(List ae)→List V:=oA (gj str)
def Mz (r:Bool):V×List V:=(B r,[])
noncomputable def J6 :=bi [false] Mx Mz fun x=>N5 x
theorem ahi {cw:List ae}{r}(h:N5 cw=some r):J6.F (Mx cw)=some (Mz r):=aJ (aK (cn bQ)) h
noncomputable def ab1 :=aH Tryz.f158
noncomputable abbrev vt :=cL (cL (cR (cL (cR ab1))))
noncomputable abbrev Xb :=cR (cR (cL (cL (cR (cR vt)))))
noncomputable def Iu :=ce [(81,rV)]
def My (x:(List ae))(r:Bool):St→Prop:=QF Iu Tryz.f158 [false] (Mx x) (Mz r)
theorem Sl (cw:List ae):cj Iu 0 (My cw) vt 0 (pj cw) (fun u=>(sT 32 [(0,.isl false (cw.map str))] [] 1)) fun x2=>(sT 32 [(0,.isl false (cw.map str)),(5,.isl false (cw.map str)),(6,I (len cw)),(7,I x2)] [] 1):=ef (Iv cw) fun {Q K} hK self ih x2 y h hr hn=>by
 unfold nO at h
 refine cq 5 [8] [B (decide (x2<(len cw)))] 17 ?_
 refine sq h ?_ ?_<;>intro h
 ·refine aq 1 ?_
  refine cq 5 [9] [I x2] 33 ?_
  obtain⟨e3,he3,h⟩:=bS h
  refine oq 49 (.iptr (str e3) 0) rfl (al rfl rfl rfl (bo rfl rfl rfl rfl he3)) ?_
  refine cq 7 [3,4,12] [I x2,str e3,str e3] 113 ?_
  obtain⟨r4,hr4,h⟩:=bS h
  refine oq 129 (B r4) rfl (cP (H7 hr4)) ?_
  refine cq 2 [15] [B (!r4)] 161 ?_
  obtain⟨y5,hy5,hy51,hy52⟩:=bL h
  have j5:∀u5,y5=.inr u5→Run Iu 0 Q (.code Xb::.blk 1::.code (cR (cR (cR vt)))::.lp vt::.blk 0::K) (sT 32 [(0,.isl false (cw.map str)),(5,.isl false (cw.map str)),(6,I (len cw)),(7,I x2),(27,B u5)] [] 1):=by
   intro u5 hu
   replace h:=hy52 u5 hu
   refine sq h ?_ ?_<;>intro h
   ·refine cq 4 [2] [B false] 17 ?_
    exact b8 rfl (hr _ (an h) _ (qp [B false]))
   ·refine aq 1 ?_
    refine cq 5 [7] [I (ac (x2+1))] 33 ?_
    refine cY ?_
    exact rf [0,5,6,7] [] (ih _ _ h hr hn :)
  have r5:∀r',y5=.inl r'→∀st,My cw r' st→Q st:=fun r' e st hq=>hr r' (hy51 r' e) st hq
  replace h:=hy5
  refine sp 15 h rfl ?_ ?_<;>intro h
  ·refine cq 13 [27] [B true] 353 ?_
   exact rf [0,5,6,7,27] [] (j5 _ (an h) :)
  ·refine cq 3 [18] [B (decide (x2>0))] 209 ?_
   obtain⟨y6,hy6,hy61,hy62⟩:=bL h
   have j6:∀u6,y6=.inr u6→Run Iu 0 Q (.code Xb::.blk 1::.code (cR (cR (cR vt)))::.lp vt::.blk 0::K) (sT 32 [(0,.isl false (cw.map str)),(5,.isl false (cw.map str)),(6,I (len cw)),(7,I x2),(27,B u6)] [] 1):=by
    intro u6 hu
    replace h:=hy62 u6 hu
    exact rf [0,5,6,7,27] [] (j5 _ (an h) :)
   have r6:∀r',y6=.inl r'→∀st,My cw r' st→Q st:=fun r' e st hq=>r5 r' (hy61 r' e) st hq
   replace h:=hy6
   refine sp 18 h rfl ?_ ?_<;>intro h
   ·refine cq 4 [19,20,22] [str e3,.isl false (cw.map str),I (ac (x2 - 1))] 273 ?_
    obtain⟨e7,he7,h⟩:=bS h
    refine oy 289 (.iptr (str e7) 0) rfl (al rfl rfl rfl (bo rfl rfl rfl rfl he7)) ?_
    refine cq 5 [27] [B (Op.bytesLess e3 e7||e3==e7)] 353 ?_
    exact rf [0,5,6,7,27] [] (j6 _ (an h) :)
   ·refine cq 10 [27] [B false] 353 ?_
    exact rf [0,5,6,7,27] [] (j6 _ (an h) :)
 ·refine aq 1 ?_
  exact rf [0] [] (hn _ (an h) :) (hk:=hK)
theorem acU (cw:List ae)(r:Bool)(h:N5 cw=some r):br Iu Tryz.f158 [false] 0 (Mx cw) (Mz r):=by
 show Run _ _ (My cw r) [.code ab1] _
 refine rI 32 [(0,.isl false (cw.map str))] [] 1 ?_
 unfold N5 at h
 refine cq 8 [5] [.isl false (cw.map str)] 33 ?_
 refine oq 49 (I (len cw)) rfl (bw rfl rfl rfl (bN rfl)) ?_
 refine cq 3 [7] [I (0)] 65 ?_
 obtain⟨y8,hy8,hy81,hy82⟩:=bJ h
 refine bO rfl ?_
 refine rf [0,5,6,7] [] (Sl cw rfl 0 _ hy8 (fun r' e st hq=>by rw[hy81 r' e] at hq;exact hq) fun u8 hu=>?_)
 replace h:=hy82 u8 hu
 refine cq 3 [29] [.isl false (cw.map str)] 17 ?_
 refine oq 33 (I (len cw)) rfl (bw rfl rfl rfl (bN rfl)) ?_
 refine cq 3 [2] [B (decide ((len cw)≤16))] 65 ?_
 obtain rfl:=sI h
 exact rP [B (decide ((len cw)≤16))]
theorem aav {G:b7}:bZ G 158 J6:=gT 1 0 (aO wq bv) cf Tryz.func158 (fun a r h=>acU a r h)
def EB:(ae×(List ae))→List V:=cA str (oA (fun x:List ae=>.iptr ((gj str) x) 0))
def EC (r:Bool):V×List V:=(B r,[])
noncomputable def B4 :=bi [false,false] EB EC fun x=>B3 x.1 x.2
theorem adO {f_1:ae}{a_2:List ae}{r}(h:B3 f_1 a_2=some r):B4.F (EB (f_1,a_2))=some (EC r):=aJ (aN bQ (aK (mt (cn bQ)))) h
noncomputable def adQ :=aH Tryz.f160
noncomputable def Ts :=ce [(129,sf)]
def adP (x:ae×(List ae))(r:Bool):St→Prop:=QF Ts Tryz.f160 [false,false] (EB x) (EC r)
theorem Yw (f_1:ae)(a_2:List ae)(r:Bool)(h:B3 f_1 a_2=some r):br Ts Tryz.f160 [false,false] 0 (EB (f_1,a_2)) (EC r):=by
 show Run _ _ (adP (f_1,a_2) r) [.code adQ] _
 refine rI 8 [(0,str f_1),(1,.iptr (.isl false (a_2.map str)) 0)] [] 1 ?_
 unfold B3 at h
 refine cq 8 [4,5] [.isl false (a_2.map str),str f_1] 49 ?_
 obtain⟨r3,hr3,h⟩:=bS h
 refine oq 65 (B r3) rfl (cP (Ni hr3)) ?_
 refine cq 3 [3] [B (!r3)] 97 ?_
 obtain rfl:=sI h
 exact rP [B (!r3)]
theorem Tt {G:b7}:bZ G 160 B4:=gT 2 0 (aO xX bv) cf Tryz.func160 (fun a r h=>Yw a.1 a.2 r h)
def Gv:((List ae)×(List ae))→List V:=cA (gj str) (oA (fun x:(List ae)=>(.fn 160 [.iptr ((gj str) x) 0]:V)))
def Gw (r:Int):V×List V:=(I r,[])
noncomputable def De :=bi [false,false] Gv Gw fun x=>JH x.1 x.2
theorem afn {s_1:List ae}{f_2:(List ae)}{r}(h:JH s_1 f_2=some r):De.F (Gv (s_1,f_2))=some (Gw r):=aJ (aN (cn bQ) (aK (iE (cn bQ)))) h
noncomputable def VR :=aH Tryz.f182
noncomputable def No :=ce [(160,B4)]
def VQ (x:(List ae)×(List ae))(r:Int):St→Prop:=QF No Tryz.f182 [false,false] (Gv x) (Gw r)
theorem PT (s_1:List ae)(f_2:(List ae)):cj No 0 (VQ (s_1,f_2)) (cL (cL (cR (cL (cR VR))))) 0 (uR s_1 f_2) (fun u=>(sT 19 [] [] 1)) fun x3=>(sT 19 [(0,.isl false (s_1.map str)),(1,.fn 160 [.iptr (.isl false (f_2.map str)) 0]),(7,I (len s_1)),(8,I x3)] [] 1):=ef (AU s_1 f_2) fun {Q K} hK self ih x3 y h hr hn=>by
 unfold oz at h
 refine cq 5 [9] [B (decide (x3<(len s_1)))] 17 ?_
 refine sq h ?_ ?_<;>intro h
 ·refine aq 1 ?_
  refine cq 12 [5,11,12,13] [I x3,.fn 160 [.iptr (.isl false (f_2.map str)) 0],.isl false (s_1.map str),I x3] 97 ?_
  obtain⟨e4,he4,h⟩:=bS h
  refine oq 113 (.iptr (str e4) 0) rfl (al rfl rfl rfl (bo rfl rfl rfl rfl he4)) ?_
  refine cq 1 [15] [str e4] 129 ?_
  obtain⟨r5,hr5,h⟩:=bS h
  refine oq 145 (B r5) rfl (cP (adO hr5)) ?_
  refine aq 1 ?_
  refine sq h ?_ ?_<;>intro h
  ·refine cq 5 [4] [I x3] 177 ?_
   exact b8 rfl (hr _ (an h) _ (qp [I x3]))
  ·refine aq 1 ?_
   refine cq 5 [8] [I (ac (x3+1))] 177 ?_
   refine cY ?_
   exact rf [0,1,7,8] [] (ih _ _ h hr hn :)
 ·refine aq 1 ?_
  exact rf [] [] (hn _ (an h) :) (hk:=hK)
theorem Zz (s_1:List ae)(f_2:(List ae))(r:Int)(h:JH s_1 f_2=some r):br No Tryz.f182 [false,false] 0 (Gv (s_1,f_2)) (Gw r):=by
 show Run _ _ (VQ (s_1,f_2) r) [.code VR] _
 refine rI 19 [(0,.isl false (s_1.map str)),(1,.fn 160 [.iptr (.isl false (f_2.map str)) 0])] [] 1 ?_
 unfold JH at h
 refine cq 8 [6] [.isl false (s_1.map str)] 33 ?_
 refine oq 49 (I (len s_1)) rfl (bw rfl rfl rfl (bN rfl)) ?_
 refine cq 3 [8] [I (0)] 65 ?_
 obtain⟨y6,hy6,hy61,hy62⟩:=bJ h
 refine bO rfl ?_
 refine rf [0,1,7,8] [] (PT s_1 f_2 rfl 0 _ hy6 (fun r' e st hq=>by rw[hy61 r' e] at hq;exact hq) fun u6 hu=>?_)
 replace h:=hy62 u6 hu
 refine cq 4 [4] [I (-1)] 17 ?_
 obtain rfl:=sI h
 exact rP [I (-1)]
theorem VS {G:b7}:bZ G 182 De:=gT 2 0 (aO Tt bv) cf Tryz.func182 (fun a r h=>Zz a.1 a.2 r h)
def Gg:((List ae)×(List ae))→List V:=cA (gj str) (oA (fun x:(List ae)=>(.fn 160 [.iptr ((gj str) x) 0]:V)))
def Gh (r:Bool):V×List V:=(B r,[])
noncomputable def C8 :=bi [false,false] Gg Gh fun x=>JB x.1 x.2
theorem afd {s_1:List ae}{f_2:(List ae)}{r}(h:JB s_1 f_2=some r):C8.F (Gg (s_1,f_2))=some (Gh r):=aJ (aN (cn bQ) (aK (iE (cn bQ)))) h
noncomputable def aff :=aH Tryz.f159
noncomputable def Vy :=ce [(182,De)]
def afe (x:(List ae)×(List ae))(r:Bool):St→Prop:=QF Vy Tryz.f159 [false,false] (Gg x) (Gh r)
theorem Zs (s_1:List ae)(f_2:(List ae))(r:Bool)(h:JB s_1 f_2=some r):br Vy Tryz.f159 [false,false] 0 (Gg (s_1,f_2)) (Gh r):=by
 show Run _ _ (afe (s_1,f_2) r) [.code aff] _
 refine rI 9 [(0,.isl false (s_1.map str)),(1,.fn 160 [.iptr (.isl false (f_2.map str)) 0])] [] 1 ?_
 unfold JB at h
 refine cq 8 [5,6] [.isl false (s_1.map str),.fn 160 [.iptr (.isl false (f_2.map str)) 0]] 49 ?_
 obtain⟨r3,hr3,h⟩:=bS h
 refine oq 65 (I r3) rfl (bG rfl rfl (bX rfl rfl rfl (bg (bT rfl) (bg (nk (dD (fS rfl) gK)) cX)) (afn hr3) (.inr rfl) dF rfl rfl rfl)) ?_
 refine cq 3 [4] [B (decide (r3≥0))] 97 ?_
 obtain rfl:=sI h
 exact rP [B (decide (r3≥0))]
theorem Vz {G:b7}:bZ G 159 C8:=gT 2 0 (aO VS bv) cf Tryz.func159 (fun a r h=>Zs a.1 a.2 r h)
def EH:(List Int)→List V:=oA (gj I)
def EI (r:Int):V×List V:=(I r,[])
noncomputable def B9 :=bi [false] EH EI fun x=>xw x
theorem adX {ay:List Int}{r}(h:xw ay=some r):B9.F (EH ay)=some (EI r):=aJ (aK (cn bc)) h
noncomputable def Tz :=aH Tryz.f161
noncomputable def MM :=ce []
def Ty (x:(List Int))(r:Int):St→Prop:=QF MM Tryz.f161 [false] (EH x) (EI r)
theorem Pr (ay:List Int):cj MM 0 (Ty ay) (cL (cL (cR (cL (cR (cR Tz)))))) 0 (Js ay) (fun u=>(sT 17 [(3,I u)] [] 1)) fun x2=>(sT 17 [(3,I x2.1),(6,.isl false (ay.map I)),(7,I (len ay)),(8,I x2.2)] [] 1):=ef (Pq ay) fun {Q K} hK self ih x2 y h hr hn=>by
 unfold sZ at h
 refine cq 5 [9] [B (decide (x2.2<(len ay)))] 17 ?_
 refine sq h ?_ ?_<;>intro h
 ·refine aq 1 ?_
  refine aq 4 ?_
  obtain⟨e3,he3,h⟩:=bS h
  refine oq 33 (.iptr (I e3) 0) rfl (al rfl rfl rfl (bo rfl rfl rfl rfl he3)) ?_
  refine cq 14 [3,8] [I (ac (x2.1+e3)),I (ac (x2.2+1))] 161 ?_
  refine cY ?_
  exact rf [3,6,7,8] [] (ih _ _ h hr hn :)
 ·refine aq 1 ?_
  exact rf [3] [] (hn _ (an h) :) (hk:=hK)
theorem YA (ay:List Int)(r:Int)(h:xw ay=some r):br MM Tryz.f161 [false] 0 (EH ay) (EI r):=by
 show Run _ _ (Ty ay r) [.code Tz] _
 refine rI 17 [(0,.isl false (ay.map I))] [] 1 ?_
 unfold xw at h
 refine cq 12 [3,6] [I (0),.isl false (ay.map I)] 49 ?_
 refine oq 65 (I (len ay)) rfl (bw rfl rfl rfl (bN rfl)) ?_
 refine cq 3 [8] [I (0)] 81 ?_
 obtain⟨y4,hy4,hy41,hy42⟩:=bJ h
 refine bO rfl ?_
 refine rf [3,6,7,8] [] (Pr ay rfl (0,0) _ hy4 (fun r' e st hq=>by rw[hy41 r' e] at hq;exact hq) fun u4 hu=>?_)
 replace h:=hy42 u4 hu
 refine cq 5 [2] [I u4] 33 ?_
 obtain rfl:=sI h
 exact rP [I u4]
theorem TA {G:b7}:bZ G 161 B9:=gT 1 0 bv cf Tryz.func161 (fun a r h=>YA a r h)
def Mr:(Clause×Contract×Int)→List V:=cA au (cA (fun x:Contract=>.iptr (aP x) 0) (oA (fun x:Int=>.iptr (I x) 0)))
def Ms (r:Bool):V×List V:=(B r,[])
noncomputable def J2 :=bi [false,false,false] Mr Ms fun x=>N3 x.1 x.2.1 x.2.2
theorem ahb {x_1:Clause}{a_2:Contract}{a_3:Int}{r}(h:N3 x_1 a_2 a_3=some r):J2.F (Mr (x_1,a_2,a_3))=some (Ms r):=aJ (aN dV (aN (mt bb) (aK (mt bc)))) h
noncomputable def ahd :=aH Tryz.f195
noncomputable def abZ :=ce []
def ahc (x:Clause×Contract×Int)(r:Bool):St→Prop:=QF abZ Tryz.f195 [false,false,false] (Mr x) (Ms r)
theorem acR (x_1:Clause)(a_2:Contract)(a_3:Int)(r:Bool)(h:N3 x_1 a_2 a_3=some r):br abZ Tryz.f195 [false,false,false] 0 (Mr (x_1,a_2,a_3)) (Ms r):=by
 show Run _ _ (ahc (x_1,a_2,a_3) r) [.code ahd] _
 refine rI 14 [(0,aB x_1),(1,.iptr (aa a_2) 0),(2,.iptr (I a_3) 0)] [] 1 ?_
 unfold N3 at h
 refine ck 6 [3] [] [1] [] [.hp 1 0 [] 12 0 0] [some ⟨0,12,[aB x_1]⟩] 33 (by kernel_rfl) ?_
 refine eb [0,1,0,4,0,28,60,124,255,511] rfl (by decide +kernel) ?_
 refine dq [1] [] (.hp 1 0 [] 12 0 11) rfl (az rfl rfl rfl) ?_
 refine dq [1] [] (str x_1.Repair) rfl (aX rfl rfl) ?_
 refine dq [] [] (.iptr (aa a_2) 1) rfl (az rfl rfl rfl) ?_
 refine dq [] [] (.isl false (a_2.Clauses.map au)) rfl (aX rfl rfl) ?_
 refine dq [] [] (I a_3) rfl (aX rfl rfl) ?_
 obtain⟨e4,he4,h⟩:=bS h
 refine dq [] [] (.iptr (aB e4) 0) rfl (al rfl rfl rfl (bo rfl rfl rfl rfl he4)) ?_
 refine dq [] [] (.iptr (aB e4) 0) rfl (az rfl rfl rfl) ?_
 refine dq [] [] (str e4.Id) rfl (aX rfl rfl) ?_
 refine dk 2 [4,13] [B (x_1.Repair==e4.Id),B (x_1.Repair==e4.Id)] ?_
 refine de 193 rfl rfl ?_
 obtain rfl:=sI h
 exact rP [B (x_1.Repair==e4.Id)]
theorem aas {G:b7}:bZ G 195 J2:=gT 3 0 bv cf Tryz.func195 (fun a r h=>acR a.1 a.2.1 a.2.2 r h)
def Gm:((List Clause)×(Contract×Int))→List V:=cA (gj au) (oA (fun x:Contract×Int=>(.fn 195 [.iptr (aP x.1) 0,.iptr (I x.2) 0]:V)))
def Gn (r:Int):V×List V:=(I r,[])
noncomputable def Da :=bi [false,false] Gm Gn fun x=>JD x.1 x.2
theorem afj {s_1:List Clause}{f_2:Contract×Int}{r}(h:JD s_1 f_2=some r):Da.F (Gm (s_1,f_2))=some (Gn r):=aJ (aN (cn dV) (aK (Rb bb bc))) h
noncomputable def VF :=aH Tryz.f110
noncomputable def Nk :=ce [(195,J2)]
def VE (x:(List Clause)×(Contract×Int))(r:Int):St→Prop:=QF Nk Tryz.f110 [false,false] (Gm x) (Gn r)
theorem PP (s_1:List Clause)(f_2:Contract×Int):cj Nk 0 (VE (s_1,f_2)) (cL (cL (cR (cL (cR VF))))) 0 (uM s_1 f_2) (fun u=>(sT 19 [] [] 1)) fun x3=>(sT 19 [(0,.isl false (s_1.map au)),(1,.fn 195 [.iptr (aa f_2.1) 0,.iptr (I f_2.2) 0]),(7,I (len s_1)),(8,I x3)] [] 1):=ef (AO s_1 f_2) fun {Q K} hK self ih x3 y h hr hn=>by
 unfold ou at h
 refine cq 5 [9] [B (decide (x3<(len s_1)))] 17 ?_
 refine sq h ?_ ?_<;>intro h
 ·refine aq 1 ?_
  refine cq 12 [5,11,12,13] [I x3,.fn 195 [.iptr (aa f_2.1) 0,.iptr (I f_2.2) 0],.isl false (s_1.map au),I x3] 97 ?_
  obtain⟨e4,he4,h⟩:=bS h
  refine oq 113 (.iptr (aB e4) 0) rfl (al rfl rfl rfl (bo rfl rfl rfl rfl he4)) ?_
  refine cq 1 [15] [aB e4] 129 ?_
  obtain⟨r5,hr5,h⟩:=bS h
  refine oq 145 (B r5) rfl (cP (ahb hr5)) ?_
  refine aq 1 ?_
  refine sq h ?_ ?_<;>intro h
  ·refine cq 5 [4] [I x3] 177 ?_
   exact b8 rfl (hr _ (an h) _ (qp [I x3]))
  ·refine aq 1 ?_
   refine cq 5 [8] [I (ac (x3+1))] 177 ?_
   refine cY ?_
   exact rf [0,1,7,8] [] (ih _ _ h hr hn :)
 ·refine aq 1 ?_
  exact rf [] [] (hn _ (an h) :) (hk:=hK)
theorem Zv (s_1:List Clause)(f_2:Contract×Int)(r:Int)(h:JD s_1 f_2=some r):br Nk Tryz.f110 [false,false] 0 (Gm (s_1,f_2)) (Gn r):=by
 show Run _ _ (VE (s_1,f_2) r) [.code VF] _
 refine rI 19 [(0,.isl false (s_1.map au)),(1,.fn 195 [.iptr (aa f_2.1) 0,.iptr (I f_2.2) 0])] [] 1 ?_
 unfold JD at h
 refine cq 8 [6] [.isl false (s_1.map au)] 33 ?_
 refine oq 49 (I (len s_1)) rfl (bw rfl rfl rfl (bN rfl)) ?_
 refine cq 3 [8] [I (0)] 65 ?_
 obtain⟨y6,hy6,hy61,hy62⟩:=bJ h
 refine bO rfl ?_
 refine rf [0,1,7,8] [] (PP s_1 f_2 rfl 0 _ hy6 (fun r' e st hq=>by rw[hy61 r' e] at hq;exact hq) fun u6 hu=>?_)
 replace h:=hy62 u6 hu
 refine cq 4 [4] [I (-1)] 17 ?_
 obtain rfl:=sI h
 exact rP [I (-1)]
theorem VG {G:b7}:bZ G 110 Da:=gT 2 0 (aO aas bv) cf Tryz.func110 (fun a r h=>Zv a.1 a.2 r h)
def F8:((List Clause)×(Contract×Int))→List V:=cA (gj au) (oA (fun x:Contract×Int=>(.fn 195 [.iptr (aP x.1) 0,.iptr (I x.2) 0]:V)))
def F9 (r:Bool):V×List V:=(B r,[])
noncomputable def C4 :=bi [false,false] F8 F9 fun x=>Jw x.1 x.2
theorem ae1 {s_1:List Clause}{f_2:Contract×Int}{r}(h:Jw s_1 f_2=some r):C4.F (F8 (s_1,f_2))=some (F9 r):=aJ (aN (cn dV) (aK (Rb bb bc))) h
noncomputable def ae3 :=aH Tryz.f194
noncomputable def Vq :=ce [(110,Da)]
def ae2 (x:(List Clause)×(Contract×Int))(r:Bool):St→Prop:=QF Vq Tryz.f194 [false,false] (F8 x) (F9 r)
theorem Zn (s_1:List Clause)(f_2:Contract×Int)(r:Bool)(h:Jw s_1 f_2=some r):br Vq Tryz.f194 [false,false] 0 (F8 (s_1,f_2)) (F9 r):=by
 show Run _ _ (ae2 (s_1,f_2) r) [.code ae3] _
 refine rI 9 [(0,.isl false (s_1.map au)),(1,.fn 195 [.iptr (aa f_2.1) 0,.iptr (I f_2.2) 0])] [] 1 ?_
 unfold Jw at h
 refine cq 8 [5,6] [.isl false (s_1.map au),.fn 195 [.iptr (aa f_2.1) 0,.iptr (I f_2.2) 0]] 49 ?_
 obtain⟨r3,hr3,h⟩:=bS h
 refine oq 65 (I r3) rfl (bG rfl rfl (bX rfl rfl rfl (bg (bT rfl) (bg (nk (dD (fS rfl) (dD (fS rfl) gK))) cX)) (afj hr3) (.inr rfl) dF rfl rfl rfl)) ?_
 refine cq 3 [4] [B (decide (r3≥0))] 97 ?_
 obtain rfl:=sI h
 exact rP [B (decide (r3≥0))]
theorem Vr {G:b7}:bZ G 194 C4:=gT 2 0 (aO VG bv) cf Tryz.func194 (fun a r h=>Zn a.1 a.2 r h)
def Mp:(Contract×Int)→List V:=cA aP (oA I)
def Mq (r:Bool):V×List V:=(B r,[])
noncomputable def J1 :=bi [false,false] Mp Mq fun x=>N2 x.1 x.2
theorem ag8 {c_1:Contract}{i_2:Int}{r}(h:N2 c_1 i_2=some r):J1.F (Mp (c_1,i_2))=some (Mq r):=aJ (aN bb (aK bc)) h
noncomputable def aha :=aH Tryz.f183
noncomputable def abY :=ce [(194,C4)]
def ag9 (x:Contract×Int)(r:Bool):St→Prop:=QF abY Tryz.f183 [false,false] (Mp x) (Mq r)
theorem acQ (c_1:Contract)(i_2:Int)(r:Bool)(h:N2 c_1 i_2=some r):br abY Tryz.f183 [false,false] 0 (Mp (c_1,i_2)) (Mq r):=by
 show Run _ _ (ag9 (c_1,i_2) r) [.code aha] _
 refine rI 9 [(0,aa c_1),(1,I i_2)] [] 1 ?_
 unfold N2 at h
 refine ck 11 [6,7] [] [1,17] [] [.isl false (c_1.Clauses.map au),.fn 195 [.hp 1 0 [] 2 0 0,.hp 17 0 [] 1 0 0]] [some ⟨0,2,[aa c_1]⟩,some ⟨0,1,[I i_2]⟩] 97 (by kernel_rfl) ?_
 obtain⟨r3,hr3,h⟩:=bS h
 refine oq 113 (B r3) rfl (bG rfl rfl (bX rfl rfl rfl (bg (bT rfl) (bg (nk (dD (rc (path:=[]) rfl rfl aE rfl rfl) (dD (rc (path:=[]) rfl rfl aE rfl rfl) gK))) cX)) (ae1 hr3) (.inl rfl) dF rfl rfl rfl)) ?_
 refine cq 2 [4] [B r3] 129 ?_
 obtain rfl:=sI h
 exact rP [B r3]
theorem aar {G:b7}:bZ G 183 J1:=gT 2 0 (aO Vr bv) cf Tryz.func183 (fun a r h=>acQ a.1 a.2 r h)
def Mv:(Duty×Duty)→List V:=cA ah (oA (fun x:Duty=>.iptr (ah x) 0))
def Mw (r:Bool):V×List V:=(B r,[])
noncomputable def J5 :=bi [false,false] Mv Mw fun x=>Q2 x.1 x.2
theorem ahf {kr:Duty}{a_2:Duty}{r}(h:Q2 kr a_2=some r):J5.F (Mv (kr,a_2))=some (Mw r):=aJ (aN eh (aK (mt eh))) h
noncomputable def ahh :=aH Tryz.f185
noncomputable def ab0 :=ce []
def ahg (x:Duty×Duty)(r:Bool):St→Prop:=QF ab0 Tryz.f185 [false,false] (Mv x) (Mw r)
theorem acT (kr:Duty)(a_2:Duty)(r:Bool)(h:Q2 kr a_2=some r):br ab0 Tryz.f185 [false,false] 0 (Mv (kr,a_2)) (Mw r):=by
 show Run _ _ (ahg (kr,a_2) r) [.code ahh] _
 refine rI 9 [(0,ah kr),(1,.iptr (ah a_2) 0)] [] 1 ?_
 unfold Q2 at h
 refine cq 14 [3] [B (kr.Clause==a_2.Clause)] 129 ?_
 obtain rfl:=sI h
 exact rP [B (kr.Clause==a_2.Clause)]
theorem aau {G:b7}:bZ G 185 J5:=gT 2 0 bv cf Tryz.func185 (fun a r h=>acT a.1 a.2 r h)
def Gp:((List Duty)×Duty)→List V:=cA (gj ah) (oA (fun x:Duty=>(.fn 185 [.iptr (ah x) 0]:V)))
def Gq (r:Int):V×List V:=(I r,[])
noncomputable def Db :=bi [false,false] Gp Gq fun x=>JE x.1 x.2
theorem afk {s_1:List Duty}{f_2:Duty}{r}(h:JE s_1 f_2=some r):Db.F (Gp (s_1,f_2))=some (Gq r):=aJ (aN (cn eh) (aK (iE eh))) h
noncomputable def VI :=aH Tryz.f196
noncomputable def Nl :=ce [(185,J5)]
def VH (x:(List Duty)×Duty)(r:Int):St→Prop:=QF Nl Tryz.f196 [false,false] (Gp x) (Gq r)
theorem PQ (s_1:List Duty)(f_2:Duty):cj Nl 0 (VH (s_1,f_2)) (cL (cL (cR (cL (cR VI))))) 0 (uN s_1 f_2) (fun u=>(sT 19 [] [] 1)) fun x3=>(sT 19 [(0,.isl false (s_1.map ah)),(1,.fn 185 [.iptr (ah f_2) 0]),(7,I (len s_1)),(8,I x3)] [] 1):=ef (AP s_1 f_2) fun {Q K} hK self ih x3 y h hr hn=>by
 unfold ov at h
 refine cq 5 [9] [B (decide (x3<(len s_1)))] 17 ?_
 refine sq h ?_ ?_<;>intro h
 ·refine aq 1 ?_
  refine cq 12 [5,11,12,13] [I x3,.fn 185 [.iptr (ah f_2) 0],.isl false (s_1.map ah),I x3] 97 ?_
  obtain⟨e4,he4,h⟩:=bS h
  refine oq 113 (.iptr (ah e4) 0) rfl (al rfl rfl rfl (bo rfl rfl rfl rfl he4)) ?_
  refine cq 1 [15] [ah e4] 129 ?_
  obtain⟨r5,hr5,h⟩:=bS h
  refine oq 145 (B r5) rfl (cP (ahf hr5)) ?_
  refine aq 1 ?_
  refine sq h ?_ ?_<;>intro h
  ·refine cq 5 [4] [I x3] 177 ?_
   exact b8 rfl (hr _ (an h) _ (qp [I x3]))
  ·refine aq 1 ?_
   refine cq 5 [8] [I (ac (x3+1))] 177 ?_
   refine cY ?_
   exact rf [0,1,7,8] [] (ih _ _ h hr hn :)
 ·refine aq 1 ?_
  exact rf [] [] (hn _ (an h) :) (hk:=hK)
theorem Zw (s_1:List Duty)(f_2:Duty)(r:Int)(h:JE s_1 f_2=some r):br Nl Tryz.f196 [false,false] 0 (Gp (s_1,f_2)) (Gq r):=by
 show Run _ _ (VH (s_1,f_2) r) [.code VI] _
 refine rI 19 [(0,.isl false (s_1.map ah)),(1,.fn 185 [.iptr (ah f_2) 0])] [] 1 ?_
 unfold JE at h
 refine cq 8 [6] [.isl false (s_1.map ah)] 33 ?_
 refine oq 49 (I (len s_1)) rfl (bw rfl rfl rfl (bN rfl)) ?_
 refine cq 3 [8] [I (0)] 65 ?_
 obtain⟨y6,hy6,hy61,hy62⟩:=bJ h
 refine bO rfl ?_
 refine rf [0,1,7,8] [] (PQ s_1 f_2 rfl 0 _ hy6 (fun r' e st hq=>by rw[hy61 r' e] at hq;exact hq) fun u6 hu=>?_)
 replace h:=hy62 u6 hu
 refine cq 4 [4] [I (-1)] 17 ?_
 obtain rfl:=sI h
 exact rP [I (-1)]
theorem VJ {G:b7}:bZ G 196 Db:=gT 2 0 (aO aau bv) cf Tryz.func196 (fun a r h=>Zw a.1 a.2 r h)
def Ga:((List Duty)×Duty)→List V:=cA (gj ah) (oA (fun x:Duty=>(.fn 185 [.iptr (ah x) 0]:V)))
def Gb (r:Bool):V×List V:=(B r,[])
noncomputable def C5 :=bi [false,false] Ga Gb fun x=>Jy x.1 x.2
theorem ae4 {s_1:List Duty}{f_2:Duty}{r}(h:Jy s_1 f_2=some r):C5.F (Ga (s_1,f_2))=some (Gb r):=aJ (aN (cn eh) (aK (iE eh))) h
noncomputable def ae6 :=aH Tryz.f184
noncomputable def Vs :=ce [(196,Db)]
def ae5 (x:(List Duty)×Duty)(r:Bool):St→Prop:=QF Vs Tryz.f184 [false,false] (Ga x) (Gb r)
theorem Zp (s_1:List Duty)(f_2:Duty)(r:Bool)(h:Jy s_1 f_2=some r):br Vs Tryz.f184 [false,false] 0 (Ga (s_1,f_2)) (Gb r):=by
 show Run _ _ (ae5 (s_1,f_2) r) [.code ae6] _
 refine rI 9 [(0,.isl false (s_1.map ah)),(1,.fn 185 [.iptr (ah f_2) 0])] [] 1 ?_
 unfold Jy at h
 refine cq 8 [5,6] [.isl false (s_1.map ah),.fn 185 [.iptr (ah f_2) 0]] 49 ?_
 obtain⟨r3,hr3,h⟩:=bS h
 refine oq 65 (I r3) rfl (bG rfl rfl (bX rfl rfl rfl (bg (bT rfl) (bg (nk (dD (fS rfl) gK)) cX)) (afk hr3) (.inr rfl) dF rfl rfl rfl)) ?_
 refine cq 3 [4] [B (decide (r3≥0))] 97 ?_
 obtain rfl:=sI h
 exact rP [B (decide (r3≥0))]
theorem Vt {G:b7}:bZ G 184 C5:=gT 2 0 (aO VJ bv) cf Tryz.func184 (fun a r h=>Zp a.1 a.2 r h)
def Mt:(Contract×State×Int)→List V:=cA aP (cA bH (oA I))
def Mu (r:Bool):V×List V:=(B r,[])
noncomputable def J4 :=bi [false,false,false] Mt Mu fun x=>N4 x.1 x.2.1 x.2.2
theorem ahe {c_1:Contract}{s_2:State}{i_3:Int}{r}(h:N4 c_1 s_2 i_3=some r):J4.F (Mt (c_1,s_2,i_3))=some (Mu r):=aJ (aN bb (aN cd (aK bc))) h
noncomputable def kH :=aH Tryz.f162
noncomputable def rq :=ce [(99,je),(183,J1),(184,C5),(78,vr)]
def iB (x:Contract×State×Int)(r:Bool):St→Prop:=QF rq Tryz.f162 [false,false,false] (Mt x) (Mu r)
theorem acS (c_1:Contract)(s_2:State)(i_3:Int)(r:Bool)(h:N4 c_1 s_2 i_3=some r):br rq Tryz.f162 [false,false,false] 0 (Mt (c_1,s_2,i_3)) (Mu r):=by
 show Run _ _ (iB (c_1,s_2,i_3) r) [.code kH] _
 refine rI 114 [(0,aa c_1),(1,ai s_2),(2,I i_3)] [] 1 ?_
 unfold N4 at h
 refine ck 11 [3,4,9,10] [] [1,17] [] [.hp 1 0 [] 2 0 0,.hp 17 0 [] 5 0 0,.isl false (s_2.Duties.map ah),I i_3] [some ⟨0,2,[aa c_1]⟩,some ⟨0,5,[ai s_2]⟩] 97 (by kernel_rfl) ?_
 obtain⟨e4,he4,h⟩:=bS h
 refine oq 113 (.iptr (ah e4) 0) rfl (al rfl rfl rfl (bo rfl rfl rfl rfl he4)) ?_
 refine ck 11 [7,14,16] [] [129] [] [.hp 129 0 [] 4 0 0,I e4.Clause,.isl false (c_1.Clauses.map au)] [some ⟨0,4,[ah e4]⟩] 225 (by kernel_rfl) ?_
 refine oq 241 (I (len c_1.Clauses)) rfl (bw rfl rfl rfl (bN rfl)) ?_
 refine cq 1 [18] [I (ac ((len c_1.Clauses) - 1))] 257 ?_
 obtain⟨r5,hr5,h⟩:=bS h
 refine oq 273 (B r5) rfl (cP (jd hr5)) ?_
 refine cq 2 [21] [B (!r5)] 305 ?_
 obtain⟨y6,hy6,hy61,hy62⟩:=bJ h
 have j6:∀u6,y6=.inr u6→Run rq 0 (iB (c_1,s_2,i_3) r) (.code (cR (cL (cR (cR kH))))::.code (cR (cR (cR kH)))::[]) (sT 114 [(2,I i_3),(3,.hp 1 0 [] 2 0 0),(4,.hp 2 0 [] 5 0 0),(7,.hp 3 0 [] 4 0 0),(38,B u6)] [⟨0,2,[aa c_1]⟩,⟨0,5,[ai s_2]⟩,⟨0,4,[ah e4]⟩] 4):=by
  intro u6 hu
  replace h:=hy62 u6 hu
  refine sq h ?_ ?_<;>intro h
  ·refine cq 4 [6] [B false] 20 ?_
   obtain rfl:=sI h
   exact rP [B false]
  ·refine aq 1 ?_
   refine aq 2 ?_
   refine eb [0,1,0,4,0,16,0,64,240,496,1008,2044,4095,8191,16383,32767,65535,131071,262143,524287,1048575,2097151,4194303,8388607,16777215,8388607,41943039,8388607,142606335,511705087,1048575999,2122317823,4294967295,8589934591,17179869183] rfl (by decide +kernel) ?_
   refine dq [3] [] (.hp 3 0 [] 4 0 2) rfl (az rfl rfl rfl) ?_
   refine dq [3] [] (I e4.Due) rfl (aX rfl rfl) ?_
   refine dq [3] [] (.hp 3 0 [] 4 0 1) rfl (az rfl rfl rfl) ?_
   refine dq [3] [] (I e4.Since) rfl (aX rfl rfl) ?_
   refine dq [1] [] (.hp 1 0 [] 2 0 1) rfl (az rfl rfl rfl) ?_
   refine dq [1] [] (.isl false (c_1.Clauses.map au)) rfl (aX rfl rfl) ?_
   refine dq [3] [] (.hp 3 0 [] 4 0 0) rfl (az rfl rfl rfl) ?_
   refine dq [3] [] (I e4.Clause) rfl (aX rfl rfl) ?_
   obtain⟨e7,he7,h⟩:=bS h
   refine dq [] [] (.iptr (aB e7) 0) rfl (al rfl rfl rfl (bo rfl rfl rfl rfl he7)) ?_
   refine dq [] [] (.iptr (aB e7) 10) rfl (az rfl rfl rfl) ?_
   refine dq [] [] (I e7.Within) rfl (aX rfl rfl) ?_
   refine dk 3 [52,51,50] [B (e4.Due != (ac (e4.Since+e7.Within))),B (e4.Due != (ac (e4.Since+e7.Within))),I (ac (e4.Since+e7.Within))] ?_
   obtain⟨y8,hy8,hy81,hy82⟩:=bJ h
   have j8:∀u8,y8=.inr u8→Run rq 0 (iB (c_1,s_2,i_3) r) (.code (cR (cL (cR (cR (cR kH)))))::.code (cR (cR (cR (cR kH))))::[]) (sT 114 [(2,I i_3),(3,.hp 1 0 [] 2 0 0),(4,.hp 2 0 [] 5 0 0),(7,.hp 3 0 [] 4 0 0),(73,B u8)] [⟨0,2,[aa c_1]⟩,⟨0,5,[ai s_2]⟩,⟨0,4,[ah e4]⟩] 4):=by
    intro u8 hu
    replace h:=hy82 u8 hu
    refine sq h ?_ ?_<;>intro h
    ·refine cq 4 [6] [B false] 20 ?_
     obtain rfl:=sI h
     exact rP [B false]
    ·refine aq 1 ?_
     refine cq 6 [74,76] [aa c_1,I e4.Clause] 52 ?_
     obtain⟨r9,hr9,h⟩:=bS h
     refine oq 68 (B r9) rfl (cP (ag8 hr9)) ?_
     refine cq 2 [79] [B (!r9)] 100 ?_
     obtain⟨y10,hy10,hy101,hy102⟩:=bJ h
     have j10:∀u10,y10=.inr u10→Run rq 0 (iB (c_1,s_2,i_3) r) (.code (cR (cL (cR (cR (cR (cR kH))))))::.code (cR (cR (cR (cR (cR kH)))))::[]) (sT 114 [(4,.hp 1 0 [] 5 0 0),(7,.hp 2 0 [] 4 0 0),(86,B u10)] [⟨0,5,[ai s_2]⟩,⟨0,4,[ah e4]⟩] 3):=by
      intro u10 hu
      replace h:=hy102 u10 hu
      refine sq h ?_ ?_<;>intro h
      ·refine cq 4 [6] [B false] 19 ?_
       obtain rfl:=sI h
       exact rP [B false]
      ·refine aq 1 ?_
       refine cq 12 [88,89] [I e4.Status,B (e4.Status==1)] 67 ?_
       refine sq h ?_ ?_<;>intro h
       ·refine cq 8 [96] [B (decide (e4.Due≥s_2.Day))] 163 ?_
        obtain⟨u11,hu11,h⟩:=lJ h
        have j11:Run rq 0 (iB (c_1,s_2,i_3) r) (.code (cR (cL (cR (cL (cR (cL (cR (cR (cR (cR (cR kH)))))))))))::.blk 0::.code (cR (cR (cR (cR (cR (cR kH))))))::[]) (sT 114 [(6,B u11)] [] 1):=by
         obtain rfl:=sI h
         exact rP [B u11]
        replace h:=hu11
        clear hu11
        refine sp 96 h rfl ?_ ?_<;>intro h
        ·refine cq 6 [6] [B (!s_2.Over)] 243 ?_
         subst h
         exact rf [6] [] (j11 :)
        ·refine cq 6 [6] [B false] 243 ?_
         subst h
         exact rf [6] [] (j11 :)
       ·refine cq 5 [101] [B (e4.Status==2)] 99 ?_
        refine sq h ?_ ?_<;>intro h
        ·refine cq 4 [6] [B true] 115 ?_
         obtain rfl:=sI h
         exact rP [B true]
        ·refine cq 5 [103] [B (e4.Status==3)] 131 ?_
         refine sq h ?_ ?_<;>intro h
         ·refine cq 9 [6] [B (decide (e4.Due<s_2.Day))] 227 ?_
          obtain rfl:=sI h
          exact rP [B (decide (e4.Due<s_2.Day))]
         ·refine cq 5 [110] [B (e4.Status==4)] 163 ?_
          refine sq h ?_ ?_<;>intro h
          ·refine cq 6 [6] [B s_2.Over] 211 ?_
           obtain rfl:=sI h
           exact rP [B s_2.Over]
          ·refine aq 1 ?_
           refine cq 5 [6] [B false] 179 ?_
           obtain rfl:=sI h
           exact rP [B false]
     have r10:∀r',y10=.inl r'→∀st,iB (c_1,s_2,i_3) r' st→(iB (c_1,s_2,i_3) r) st:=fun r' e st hq=>by rw[hy101 r' e] at hq;exact hq
     replace h:=hy10
     refine sp 79 h rfl ?_ ?_<;>intro h
     ·refine cq 3 [81,82] [.isl false (s_2.Duties.map ah),I i_3] 148 ?_
      obtain⟨s12,hs12,h⟩:=bS h
      refine oy 164 (.isl false (s12.map ah)) rfl (iD rfl rfl rfl rfl (zu rfl rfl (fun y=>(Ke y).1) rfl rfl hs12)) ?_
      refine cq 1 [84] [.fn 185 [.hp 3 0 [] 4 0 0]] 180 ?_
      obtain⟨r13,hr13,h⟩:=bS h
      refine oy 196 (B r13) rfl (bG rfl rfl (bX rfl rfl rfl (bg (bT rfl) (bg (nk (dD (rc (path:=[]) rfl rfl aE rfl rfl) gK)) cX)) (ae4 hr13) (.inl rfl) dF rfl rfl rfl)) ?_
      refine cq 2 [86] [B r13] 212 ?_
      exact rf [4,7,86] [2,3] (j10 _ (an h) :)
     ·refine cq 8 [86] [B false] 212 ?_
      exact rf [4,7,86] [2,3] (j10 _ (an h) :)
   have r8:∀r',y8=.inl r'→∀st,iB (c_1,s_2,i_3) r' st→(iB (c_1,s_2,i_3) r) st:=fun r' e st hq=>by rw[hy81 r' e] at hq;exact hq
   replace h:=hy8
   refine sp 52 h rfl ?_ ?_<;>intro h
   ·refine dk 21 [73,72,71,70,69,68,67,66,65,64,63,62,61,60,59,58,57,56,55,54,53] [B true,.und,.und,.und,.und,.und,.und,.und,.und,.und,.und,.und,.und,.und,.und,B true,B true,.und,.und,.und,.und] ?_
    refine de 564 rfl rfl ?_
    exact rf [2,3,4,7,73] [1,2,3] (j8 _ (an h) :)
   ·refine dy [3] [] (.hp 3 0 [] 4 0 2) rfl (az rfl rfl rfl) ?_
    refine dy [3] [] (I e4.Due) rfl (aX rfl rfl) ?_
    obtain⟨r14,hr14,h⟩:=bS h
    refine dy [] [] (B r14) rfl (cP (wt hr14)) ?_ (d3 rfl rfl rfl rfl (bg (bT rfl) cX) (wt hr14) (.inr rfl) rfl)
    refine dk 3 [58,57,56] [B (!r14),B (!r14),B (!r14)] ?_
    obtain⟨y15,hy15,hy151,hy152⟩:=bL h
    have j15:∀u15,y15=.inr u15→Run rq 0 (iB (c_1,s_2,i_3) r) (.code (cR (cL (cR (cR (cR kH)))))::.code (cR (cR (cR (cR kH))))::[]) (sT 114 [(2,I i_3),(3,.hp 1 0 [] 2 0 0),(4,.hp 2 0 [] 5 0 0),(7,.hp 3 0 [] 4 0 0),(73,B u15)] [⟨0,2,[aa c_1]⟩,⟨0,5,[ai s_2]⟩,⟨0,4,[ah e4]⟩] 4):=by
     intro u15 hu
     replace h:=hy152 u15 hu
     exact rf [2,3,4,7,73] [1,2,3] (j8 _ (an h) :)
    have r15:∀r',y15=.inl r'→∀st,iB (c_1,s_2,i_3) r' st→(iB (c_1,s_2,i_3) r) st:=fun r' e st hq=>r8 r' (hy151 r' e) st hq
    replace h:=hy15
    refine sp 58 h rfl ?_ ?_<;>intro h
    ·refine dk 15 [73,72,71,70,69,68,67,66,65,64,63,62,61,60,59] [B true,.und,.und,.und,.und,.und,.und,.und,.und,.und,.und,.und,.und,.und,.und] ?_
     refine de 564 rfl rfl ?_
     exact rf [2,3,4,7,73] [1,2,3] (j15 _ (an h) :)
    ·refine dk 3 [61,60,59] [B (decide (i_3>0)),B (decide (i_3>0)),I i_3] ?_
     obtain⟨y16,hy16,hy161,hy162⟩:=bL h
     have j16:∀u16,y16=.inr u16→Run rq 0 (iB (c_1,s_2,i_3) r) (.code (cR (cL (cR (cR (cR kH)))))::.code (cR (cR (cR (cR kH))))::[]) (sT 114 [(2,I i_3),(3,.hp 1 0 [] 2 0 0),(4,.hp 2 0 [] 5 0 0),(7,.hp 3 0 [] 4 0 0),(73,B u16)] [⟨0,2,[aa c_1]⟩,⟨0,5,[ai s_2]⟩,⟨0,4,[ah e4]⟩] 4):=by
      intro u16 hu
      replace h:=hy162 u16 hu
      exact rf [2,3,4,7,73] [1,2,3] (j15 _ (an h) :)
     have r16:∀r',y16=.inl r'→∀st,iB (c_1,s_2,i_3) r' st→(iB (c_1,s_2,i_3) r) st:=fun r' e st hq=>r15 r' (hy161 r' e) st hq
     replace h:=hy16
     refine sp 61 h rfl ?_ ?_<;>intro h
     ·refine dy [3] [] (.hp 3 0 [] 4 0 1) rfl (az rfl rfl rfl) ?_
      refine dy [3] [] (I e4.Since) rfl (aX rfl rfl) ?_
      refine dy [2] [] (.hp 2 0 [] 5 0 2) rfl (az rfl rfl rfl) ?_
      refine dy [2] [] (.isl false (s_2.Duties.map ah)) rfl (aX rfl rfl) ?_
      refine dk 2 [67,66] [I (ac (i_3 - 1)),I i_3] ?_
      obtain⟨e17,he17,h⟩:=bS h
      refine dy [] [] (.iptr (ah e17) 0) rfl (al rfl rfl rfl (bo rfl rfl rfl rfl he17)) ?_
      refine dy [] [] (.iptr (ah e17) 1) rfl (az rfl rfl rfl) ?_
      refine dy [] [] (I e17.Since) rfl (aX rfl rfl) ?_
      refine dk 3 [73,72,71] [B (decide (e4.Since<e17.Since)),B (decide (e4.Since<e17.Since)),B (decide (e4.Since<e17.Since))] ?_
      refine de 564 rfl rfl ?_
      exact rf [2,3,4,7,73] [1,2,3] (j16 _ (an h) :)
     ·refine dk 12 [73,72,71,70,69,68,67,66,65,64,63,62] [B false,B false,.und,.und,.und,.und,.und,.und,.und,.und,.und,.und] ?_
      refine de 564 rfl rfl ?_
      exact rf [2,3,4,7,73] [1,2,3] (j16 _ (an h) :)
 have r6:∀r',y6=.inl r'→∀st,iB (c_1,s_2,i_3) r' st→(iB (c_1,s_2,i_3) r) st:=fun r' e st hq=>by rw[hy61 r' e] at hq;exact hq
 replace h:=hy6
 refine sp 21 h rfl ?_ ?_<;>intro h
 ·refine cq 18 [38] [B true] 577 ?_
  exact rf [2,3,4,7,38] [1,17,129] (j6 _ (an h) :)
 ·refine cq 4 [23,25] [.isl false (c_1.Clauses.map au),I e4.Clause] 369 ?_
  obtain⟨e18,he18,h⟩:=bS h
  refine oy 385 (.iptr (aB e18) 0) rfl (al rfl rfl rfl (bo rfl rfl rfl rfl he18)) ?_
  refine cq 5 [31] [B (e18.Kind != 1)] 465 ?_
  obtain⟨y19,hy19,hy191,hy192⟩:=bL h
  have j19:∀u19,y19=.inr u19→Run rq 0 (iB (c_1,s_2,i_3) r) (.code (cR (cL (cR (cR kH))))::.code (cR (cR (cR kH)))::[]) (sT 114 [(2,I i_3),(3,.hp 1 0 [] 2 0 0),(4,.hp 2 0 [] 5 0 0),(7,.hp 3 0 [] 4 0 0),(38,B u19)] [⟨0,2,[aa c_1]⟩,⟨0,5,[ai s_2]⟩,⟨0,4,[ah e4]⟩] 4):=by
   intro u19 hu
   replace h:=hy192 u19 hu
   exact rf [2,3,4,7,38] [1,2,3] (j6 _ (an h) :)
  have r19:∀r',y19=.inl r'→∀st,iB (c_1,s_2,i_3) r' st→(iB (c_1,s_2,i_3) r) st:=fun r' e st hq=>r6 r' (hy191 r' e) st hq
  replace h:=hy19
  refine sp 31 h rfl ?_ ?_<;>intro h
  ·refine cq 8 [38] [B true] 577 ?_
   exact rf [2,3,4,7,38] [1,17,129] (j19 _ (an h) :)
  ·refine cq 4 [33,35] [I e4.Since,I s_2.Day] 529 ?_
   obtain⟨r20,hr20,h⟩:=bS h
   refine oy 545 (B r20) rfl (cP (jd hr20)) ?_
   refine cq 3 [38] [B (!r20)] 577 ?_
   exact rf [2,3,4,7,38] [1,17,129] (j19 _ (an h) :)
theorem aat {G:b7}:bZ G 162 J4:=gT 3 0 (aO ju (aO aar (aO Vt (aO D3 bv)))) cf Tryz.func162 (fun a r h=>acS a.1 a.2.1 a.2.2 r h)
def Mj:Int→List V:=oA I
def Mk (r:Bool):V×List V:=(B r,[])
noncomputable def JZ :=bi [false] Mj Mk fun x=>Q1 x
theorem ag2 {x_1:Int}{r}(h:Q1 x_1=some r):JZ.F (Mj x_1)=some (Mk r):=aJ (aK bc) h
noncomputable def ag4 :=aH Tryz.f164
noncomputable def abW :=ce [(99,je)]
def ag3 (x:Int)(r:Bool):St→Prop:=QF abW Tryz.f164 [false] (Mj x) (Mk r)
theorem acN (x_1:Int)(r:Bool)(h:Q1 x_1=some r):br abW Tryz.f164 [false] 0 (Mj x_1) (Mk r):=by
 show Run _ _ (ag3 x_1 r) [.code ag4] _
 refine rI 5 [(0,I x_1)] [] 1 ?_
 unfold Q1 at h
 refine cq 7 [3] [I x_1] 33 ?_
 obtain⟨r2,hr2,h⟩:=bS h
 refine oq 49 (B r2) rfl (cP (jd hr2)) ?_
 refine cq 2 [2] [B r2] 65 ?_
 obtain rfl:=sI h
 exact rP [B r2]
theorem aap {G:b7}:bZ G 164 JZ:=gT 1 0 (aO ju bv) cf Tryz.func164 (fun a r h=>acN a r h)
def ED:Int→List V:=oA I
def EE (r:Bool):V×List V:=(B r,[])
noncomputable def B6 :=bi [false] ED EE fun x=>B5 x
theorem adR {b_1:Int}{r}(h:B5 b_1=some r):B6.F (ED b_1)=some (EE r):=aJ (aK bc) h
noncomputable def adT :=aH Tryz.f163
noncomputable def Tu :=ce [(164,JZ)]
def adS (x:Int)(r:Bool):St→Prop:=QF Tu Tryz.f163 [false] (ED x) (EE r)
theorem Yx (b_1:Int)(r:Bool)(h:B5 b_1=some r):br Tu Tryz.f163 [false] 0 (ED b_1) (EE r):=by
 show Run _ _ (adS b_1 r) [.code adT] _
 refine rI 6 [(0,I b_1)] [] 1 ?_
 unfold B5 at h
 refine cq 7 [3] [I b_1] 33 ?_
 obtain⟨r2,hr2,h⟩:=bS h
 refine oq 49 (B r2) rfl (cP (ag2 hr2)) ?_
 refine cq 3 [2] [B (!r2)] 81 ?_
 obtain rfl:=sI h
 exact rP [B (!r2)]
theorem Tv {G:b7}:bZ G 163 B6:=gT 1 0 (aO aap bv) cf Tryz.func163 (fun a r h=>Yx a r h)
def Gt:((List Int)×Unit)→List V:=cA (gj I) (oA (fun x:Unit=>(.fn 163 []:V)))
def Gu (r:Int):V×List V:=(I r,[])
noncomputable def Dd :=bi [false,false] Gt Gu fun x=>JG x.1 x.2
theorem afm {s_1:List Int}{f_2:Unit}{r}(h:JG s_1 f_2=some r):Dd.F (Gt (s_1,f_2))=some (Gu r):=aJ (aN (cn bc) (aK (Ra ))) h
noncomputable def VO :=aH Tryz.f153
noncomputable def Nn :=ce [(163,B6)]
def VN (x:(List Int)×Unit)(r:Int):St→Prop:=QF Nn Tryz.f153 [false,false] (Gt x) (Gu r)
theorem PS (s_1:List Int)(f_2:Unit):cj Nn 0 (VN (s_1,f_2)) (cL (cL (cR (cL (cR VO))))) 0 (uQ s_1 f_2) (fun u=>(sT 19 [] [] 1)) fun x3=>(sT 19 [(0,.isl false (s_1.map I)),(1,.fn 163 []),(7,I (len s_1)),(8,I x3)] [] 1):=ef (AR s_1 f_2) fun {Q K} hK self ih x3 y h hr hn=>by
 unfold ox at h
 refine cq 5 [9] [B (decide (x3<(len s_1)))] 17 ?_
 refine sq h ?_ ?_<;>intro h
 ·refine aq 1 ?_
  refine cq 12 [5,11,12,13] [I x3,.fn 163 [],.isl false (s_1.map I),I x3] 97 ?_
  obtain⟨e4,he4,h⟩:=bS h
  refine oq 113 (.iptr (I e4) 0) rfl (al rfl rfl rfl (bo rfl rfl rfl rfl he4)) ?_
  refine cq 1 [15] [I e4] 129 ?_
  obtain⟨r5,hr5,h⟩:=bS h
  refine oq 145 (B r5) rfl (cP (adR hr5)) ?_
  refine aq 1 ?_
  refine sq h ?_ ?_<;>intro h
  ·refine cq 5 [4] [I x3] 177 ?_
   exact b8 rfl (hr _ (an h) _ (qp [I x3]))
  ·refine aq 1 ?_
   refine cq 5 [8] [I (ac (x3+1))] 177 ?_
   refine cY ?_
   exact rf [0,1,7,8] [] (ih _ _ h hr hn :)
 ·refine aq 1 ?_
  exact rf [] [] (hn _ (an h) :) (hk:=hK)
theorem Zy (s_1:List Int)(f_2:Unit)(r:Int)(h:JG s_1 f_2=some r):br Nn Tryz.f153 [false,false] 0 (Gt (s_1,f_2)) (Gu r):=by
 show Run _ _ (VN (s_1,f_2) r) [.code VO] _
 refine rI 19 [(0,.isl false (s_1.map I)),(1,.fn 163 [])] [] 1 ?_
 unfold JG at h
 refine cq 8 [6] [.isl false (s_1.map I)] 33 ?_
 refine oq 49 (I (len s_1)) rfl (bw rfl rfl rfl (bN rfl)) ?_
 refine cq 3 [8] [I (0)] 65 ?_
 obtain⟨y6,hy6,hy61,hy62⟩:=bJ h
 refine bO rfl ?_
 refine rf [0,1,7,8] [] (PS s_1 f_2 rfl 0 _ hy6 (fun r' e st hq=>by rw[hy61 r' e] at hq;exact hq) fun u6 hu=>?_)
 replace h:=hy62 u6 hu
 refine cq 4 [4] [I (-1)] 17 ?_
 obtain rfl:=sI h
 exact rP [I (-1)]
theorem VP {G:b7}:bZ G 153 Dd:=gT 2 0 (aO Tv bv) cf Tryz.func153 (fun a r h=>Zy a.1 a.2 r h)
def Ge:((List Int)×Unit)→List V:=cA (gj I) (oA (fun x:Unit=>(.fn 163 []:V)))
def Gf (r:Bool):V×List V:=(B r,[])
noncomputable def C7 :=bi [false,false] Ge Gf fun x=>JA x.1 x.2
theorem afa {s_1:List Int}{f_2:Unit}{r}(h:JA s_1 f_2=some r):C7.F (Ge (s_1,f_2))=some (Gf r):=aJ (aN (cn bc) (aK (Ra ))) h
noncomputable def afc :=aH Tryz.f115
noncomputable def Vw :=ce [(153,Dd)]
def afb (x:(List Int)×Unit)(r:Bool):St→Prop:=QF Vw Tryz.f115 [false,false] (Ge x) (Gf r)
theorem Zr (s_1:List Int)(f_2:Unit)(r:Bool)(h:JA s_1 f_2=some r):br Vw Tryz.f115 [false,false] 0 (Ge (s_1,f_2)) (Gf r):=by
 show Run _ _ (afb (s_1,f_2) r) [.code afc] _
 refine rI 9 [(0,.isl false (s_1.map I)),(1,.fn 163 [])] [] 1 ?_
 unfold JA at h
 refine cq 8 [5,6] [.isl false (s_1.map I),.fn 163 []] 49 ?_
 obtain⟨r3,hr3,h⟩:=bS h
 refine oq 65 (I r3) rfl (cP (afm hr3)) ?_
 refine cq 3 [4] [B (decide (r3≥0))] 97 ?_
 obtain rfl:=sI h
 exact rP [B (decide (r3≥0))]
theorem Vx {G:b7}:bZ G 115 C7:=gT 2 0 (aO VP bv) cf Tryz.func115 (fun a r h=>Zr a.1 a.2 r h)
def MA:(Contract×State)→List V:=cA aP (oA bH)
def MB (r:Bool):V×List V:=(B r,[])
noncomputable def J7 :=bi [false,false] MA MB fun x=>N6 x.1 x.2
theorem ahj {c_1:Contract}{s_2:State}{r}(h:N6 c_1 s_2=some r):J7.F (MA (c_1,s_2))=some (MB r):=aJ (aN bb (aK cd)) h
noncomputable def qr :=aH Tryz.f127
noncomputable def wu :=ce [(101,zN),(78,vr),(162,J4),(115,C7),(161,B9),(158,J6),(159,C8)]
def lG (x:Contract×State)(r:Bool):St→Prop:=QF wu Tryz.f127 [false,false] (MA x) (MB r)
theorem Sm (c_1:Contract)(s_2:State):cj wu 0 (lG (c_1,s_2)) (cL (cL (cR (cL (cR (cR (cR (cR qr)))))))) 0 (qN c_1 s_2) (fun u=>(sT 60 [(3,.hp 1 0 [] 5 0 0)] [⟨0,5,[ai s_2]⟩] 2)) fun x7=>(sT 60 [(2,.hp 1 0 [] 2 0 0),(3,.hp 2 0 [] 5 0 0),(46,I (len s_2.Duties)),(47,I x7)] [⟨0,2,[aa c_1]⟩,⟨0,5,[ai s_2]⟩] 3):=ef (Iw c_1 s_2) fun {Q K} hK self ih x7 y h hr hn=>by
 unfold nP at h
 refine cq 5 [48] [B (decide (x7<(len s_2.Duties)))] 19 ?_
 refine sq h ?_ ?_<;>intro h
 ·refine aq 1 ?_
  refine cq 12 [50,51,52] [aa c_1,ai s_2,I x7] 99 ?_
  obtain⟨r8,hr8,h⟩:=bS h
  refine oq 115 (B r8) rfl (cP (ahe hr8)) ?_
  refine cq 2 [54] [B (!r8)] 131 ?_
  refine sq h ?_ ?_<;>intro h
  ·refine cq 4 [4] [B false] 147 ?_
   exact b8 rfl (hr _ (an h) _ (qp [B false]))
  ·refine aq 1 ?_
   refine cq 5 [47] [I (ac (x7+1))] 163 ?_
   refine cY ?_
   exact rf [2,3,46,47] [1,2] (ih _ _ h hr hn :)
 ·refine aq 1 ?_
  exact rf [3] [2] (hn _ (an h) :) (hk:=hK)
theorem acV (c_1:Contract)(s_2:State)(r:Bool)(h:N6 c_1 s_2=some r):br wu Tryz.f127 [false,false] 0 (MA (c_1,s_2)) (MB r):=by
 show Run _ _ (lG (c_1,s_2) r) [.code qr] _
 refine rI 60 [(0,aa c_1),(1,ai s_2)] [] 1 ?_
 unfold N6 at h
 refine ck 9 [2,3,7] [] [1,17] [] [.hp 1 0 [] 2 0 0,.hp 17 0 [] 5 0 0,aa c_1] [some ⟨0,2,[aa c_1]⟩,some ⟨0,5,[ai s_2]⟩] 65 (by kernel_rfl) ?_
 obtain⟨r3,hr3,h⟩:=bS h
 refine oq 81 (.hs 65 0 [] 1 0 (r3.map str).length) rfl (cP (abT hr3)) ?_
 refine ck 1 [5] [] [81] [] [.hp 81 0 [] 1 0 0] [some ⟨0,1,[.isl true []]⟩] 97 (by kernel_rfl) ?_
 refine gm 81 [.usl 1 (([]).map str)] rfl rfl (aR (.nil _) fi) ?_
 refine o0 113 rfl rfl (et rfl rfl (dG (path:=[]) (pl:=false) (e':=.usl 1 (r3.map str)) (es2':=[.usl 1 (r3.map str)]) rfl (fZ rfl (dx rfl rfl)) rfl rfl rfl aE rfl rfl rfl rfl rfl cM 2 rfl)) ?_
 refine cq 6 [10] [I s_2.Day] 145 ?_
 obtain⟨r4,hr4,h⟩:=bS h
 refine oq 161 (B r4) rfl (cP (wt hr4)) ?_
 refine cq 2 [13] [B (!r4)] 193 ?_
 obtain⟨y5,hy5,hy51,hy52⟩:=bJ h
 have j5:∀u5,y5=.inr u5→Run wu 0 (lG (c_1,s_2) r) (.code (cR (cL (cR (cR qr))))::.code (cR (cR (cR qr)))::[]) (sT 60 [(2,.hp 1 0 [] 2 0 0),(3,.hp 2 0 [] 5 0 0),(24,B u5)] [⟨0,2,[aa c_1]⟩,⟨0,5,[ai s_2]⟩] 3):=by
  intro u5 hu
  replace h:=hy52 u5 hu
  refine sq h ?_ ?_<;>intro h
  ·refine cq 4 [4] [B false] 19 ?_
   obtain rfl:=sI h
   exact rP [B false]
  ·refine aq 1 ?_
   refine cq 5 [26] [.isl false (s_2.Duties.map ah)] 35 ?_
   refine oq 51 (I (len s_2.Duties)) rfl (bw rfl rfl rfl (bN rfl)) ?_
   refine cq 2 [29] [B (decide ((len s_2.Duties)>24))] 83 ?_
   obtain⟨y6,hy6,hy61,hy62⟩:=bJ h
   have j6:∀u6,y6=.inr u6→Run wu 0 (lG (c_1,s_2) r) (.code (cR (cL (cR (cR (cR qr)))))::.code (cR (cR (cR (cR qr))))::[]) (sT 60 [(2,.hp 1 0 [] 2 0 0),(3,.hp 2 0 [] 5 0 0),(43,B u6)] [⟨0,2,[aa c_1]⟩,⟨0,5,[ai s_2]⟩] 3):=by
    intro u6 hu
    replace h:=hy62 u6 hu
    refine sq h ?_ ?_<;>intro h
    ·refine cq 4 [4] [B false] 19 ?_
     obtain rfl:=sI h
     exact rP [B false]
    ·refine aq 1 ?_
     refine cq 5 [45] [.isl false (s_2.Duties.map ah)] 35 ?_
     refine oq 51 (I (len s_2.Duties)) rfl (bw rfl rfl rfl (bN rfl)) ?_
     refine cq 3 [47] [I (0)] 67 ?_
     obtain⟨y9,hy9,hy91,hy92⟩:=bJ h
     refine bO rfl ?_
     refine rf [2,3,46,47] [1,2] (Sm c_1 s_2 rfl 0 _ hy9 (fun r' e st hq=>by rw[hy91 r' e] at hq;exact hq) fun u9 hu=>?_)
     replace h:=hy92 u9 hu
     refine cq 4 [57] [.isl false (s_2.Balances.map I)] 34 ?_
     obtain⟨r10,hr10,h⟩:=bS h
     refine oq 50 (B r10) rfl (cP (afa hr10)) ?_
     refine cq 3 [4] [B (!r10)] 82 ?_
     obtain rfl:=sI h
     exact rP [B (!r10)]
   have r6:∀r',y6=.inl r'→∀st,lG (c_1,s_2) r' st→(lG (c_1,s_2) r) st:=fun r' e st hq=>by rw[hy61 r' e] at hq;exact hq
   replace h:=hy6
   refine sp 29 h rfl ?_ ?_<;>intro h
   ·refine cq 15 [43] [B true] 307 ?_
    exact rf [2,3,43] [1,2] (j6 _ (an h) :)
   ·refine cq 2 [31] [.isl false (s_2.Balances.map I)] 115 ?_
    refine oy 131 (I (len s_2.Balances)) rfl (bw rfl rfl rfl (bN rfl)) ?_
    refine cq 2 [34] [.isl false (c_1.Parties.map str)] 163 ?_
    refine oy 179 (I (len c_1.Parties)) rfl (bw rfl rfl rfl (bN rfl)) ?_
    refine cq 3 [38] [B ((len s_2.Balances) != (len c_1.Parties))] 227 ?_
    obtain⟨y11,hy11,hy111,hy112⟩:=bL h
    have j11:∀u11,y11=.inr u11→Run wu 0 (lG (c_1,s_2) r) (.code (cR (cL (cR (cR (cR qr)))))::.code (cR (cR (cR (cR qr))))::[]) (sT 60 [(2,.hp 1 0 [] 2 0 0),(3,.hp 2 0 [] 5 0 0),(43,B u11)] [⟨0,2,[aa c_1]⟩,⟨0,5,[ai s_2]⟩] 3):=by
     intro u11 hu
     replace h:=hy112 u11 hu
     exact rf [2,3,43] [1,2] (j6 _ (an h) :)
    have r11:∀r',y11=.inl r'→∀st,lG (c_1,s_2) r' st→(lG (c_1,s_2) r) st:=fun r' e st hq=>r6 r' (hy111 r' e) st hq
    replace h:=hy11
    refine sp 38 h rfl ?_ ?_<;>intro h
    ·refine cq 6 [43] [B true] 307 ?_
     exact rf [2,3,43] [1,2] (j11 _ (an h) :)
    ·refine cq 2 [40] [.isl false (s_2.Balances.map I)] 259 ?_
     obtain⟨r12,hr12,h⟩:=bS h
     refine oy 275 (I r12) rfl (cP (adX hr12)) ?_
     refine cq 3 [43] [B (r12 != 0)] 307 ?_
     exact rf [2,3,43] [1,2] (j11 _ (an h) :)
 have r5:∀r',y5=.inl r'→∀st,lG (c_1,s_2) r' st→(lG (c_1,s_2) r) st:=fun r' e st hq=>by rw[hy51 r' e] at hq;exact hq
 replace h:=hy5
 refine sp 13 h rfl ?_ ?_<;>intro h
 ·refine cq 12 [24] [B true] 369 ?_
  exact rf [2,3,24] [1,17] (j5 _ (an h) :)
 ·refine cq 2 [15] [.isl false (s_2.Facts.map str)] 225 ?_
  obtain⟨r13,hr13,h⟩:=bS h
  refine oy 241 (B r13) rfl (cP (ahi hr13)) ?_
  refine cq 3 [19] [B (!r13)] 289 ?_
  obtain⟨y14,hy14,hy141,hy142⟩:=bL h
  have j14:∀u14,y14=.inr u14→Run wu 0 (lG (c_1,s_2) r) (.code (cR (cL (cR (cR qr))))::.code (cR (cR (cR qr)))::[]) (sT 60 [(2,.hp 1 0 [] 2 0 0),(3,.hp 2 0 [] 5 0 0),(24,B u14)] [⟨0,2,[aa c_1]⟩,⟨0,5,[ai s_2]⟩] 3):=by
   intro u14 hu
   replace h:=hy142 u14 hu
   exact rf [2,3,24] [1,2] (j5 _ (an h) :)
  have r14:∀r',y14=.inl r'→∀st,lG (c_1,s_2) r' st→(lG (c_1,s_2) r) st:=fun r' e st hq=>r5 r' (hy141 r' e) st hq
  replace h:=hy14
  refine sp 19 h rfl ?_ ?_<;>intro h
  ·refine cq 6 [24] [B true] 369 ?_
   exact rf [2,3,24] [1,17] (j14 _ (an h) :)
  ·refine cq 3 [21,22] [.isl false (s_2.Facts.map str),.fn 160 [.hp 81 0 [] 1 0 0]] 337 ?_
   obtain⟨r15,hr15,h⟩:=bS h
   refine oy 353 (B r15) rfl (bG rfl rfl (bX rfl rfl rfl (bg (bT rfl) (bg (nk (dD (rc (path:=[]) rfl rfl aE rfl (ab9 (bP fI))) gK)) cX)) (afd hr15) (.inl rfl) dF rfl rfl rfl)) ?_
   refine cq 2 [24] [B r15] 369 ?_
   exact rf [2,3,24] [1,17] (j14 _ (an h) :)
theorem aaw {G:b7}:bZ G 127 J7:=gT 2 0 (aO NY (aO D3 (aO aat (aO Vx (aO TA (aO aav (aO Vz bv))))))) cf Tryz.func127 (fun a r h=>acV a.1 a.2 r h)
def LW:(Contract×State)→List V:=cA aP (oA bH)
def LY (r:Bool):V×List V:=(B r,[])
noncomputable def JQ :=bi [false,false] LW LY fun x=>KM x.1 x.2
theorem agM {c_1:Contract}{s_2:State}{r}(h:KM c_1 s_2=some r):JQ.F (LW (c_1,s_2))=some (LY r):=aJ (aN bb (aK cd)) h
noncomputable def abJ :=aH Tryz.f77
noncomputable def Sc :=ce [(47,JL),(127,J7)]
def LX (x:Contract×State)(r:Bool):St→Prop:=QF Sc Tryz.f77 [false,false] (LW x) (LY r)
theorem acA (c_1:Contract)(s_2:State)(r:Bool)(h:KM c_1 s_2=some r):br Sc Tryz.f77 [false,false] 0 (LW (c_1,s_2)) (LY r):=by
 show Run _ _ (LX (c_1,s_2) r) [.code abJ] _
 refine rI 12 [(0,aa c_1),(1,ai s_2)] [] 1 ?_
 unfold KM at h
 refine ck 9 [2,3,5] [] [1,17] [] [.hp 1 0 [] 2 0 0,.hp 17 0 [] 5 0 0,aa c_1] [some ⟨0,2,[aa c_1]⟩,some ⟨0,5,[ai s_2]⟩] 65 (by kernel_rfl) ?_
 obtain⟨r3,hr3,h⟩:=bS h
 refine oq 81 (B r3) rfl (cP (agL hr3)) ?_
 refine cq 1 [7] [B r3] 97 ?_
 obtain⟨y4,hy4,hy41,hy42⟩:=bJ h
 have j4:∀u4,y4=.inr u4→Run Sc 0 (LX (c_1,s_2) r) (.code (cR (cR abJ))::[]) (sT 12 [(4,B u4)] [] 1):=by
  intro u4 hu
  replace h:=hy42 u4 hu
  obtain rfl:=sI h
  exact rP [B u4]
 have r4:∀r',y4=.inl r'→∀st,LX (c_1,s_2) r' st→(LX (c_1,s_2) r) st:=fun r' e st hq=>by rw[hy41 r' e] at hq;exact hq
 replace h:=hy4
 refine sp 7 h rfl ?_ ?_<;>intro h
 ·refine cq 2 [8,9] [aa c_1,ai s_2] 129 ?_
  obtain⟨r5,hr5,h⟩:=bS h
  refine oy 145 (B r5) rfl (cP (ahj hr5)) ?_
  refine cq 3 [4] [B r5] 177 ?_
  exact rf [4] [] (j4 _ (an h) :)
 ·refine cq 6 [4] [B false] 177 ?_
  exact rf [4] [] (j4 _ (an h) :)
theorem aag {G:b7}:bZ G 77 JQ:=gT 2 0 (aO ZQ (aO aaw bv)) cf Tryz.func77 (fun a r h=>acA a.1 a.2 r h)
def Ez:(Int×Contract)→List V:=cA I (oA (fun x:Contract=>.iptr (aP x) 0))
def EA (r:Bool):V×List V:=(B r,[])
noncomputable def B2 :=bi [false,false] Ez EA fun x=>B1 x.1 x.2
theorem adL {p_1:Int}{a_2:Contract}{r}(h:B1 p_1 a_2=some r):B2.F (Ez (p_1,a_2))=some (EA r):=aJ (aN bc (aK (mt bb))) h
noncomputable def adN :=aH Tryz.f116
noncomputable def Tq :=ce [(99,je)]
def adM (x:Int×Contract)(r:Bool):St→Prop:=QF Tq Tryz.f116 [false,false] (Ez x) (EA r)
theorem Yv (p_1:Int)(a_2:Contract)(r:Bool)(h:B1 p_1 a_2=some r):br Tq Tryz.f116 [false,false] 0 (Ez (p_1,a_2)) (EA r):=by
 show Run _ _ (adM (p_1,a_2) r) [.code adN] _
 refine rI 11 [(0,I p_1),(1,.iptr (aa a_2) 0)] [] 1 ?_
 unfold B1 at h
 refine cq 9 [4,6] [I p_1,.isl false (a_2.Parties.map str)] 65 ?_
 refine oq 81 (I (len a_2.Parties)) rfl (bw rfl rfl rfl (bN rfl)) ?_
 refine cq 1 [8] [I (ac ((len a_2.Parties) - 1))] 97 ?_
 obtain⟨r3,hr3,h⟩:=bS h
 refine oq 113 (B r3) rfl (cP (jd hr3)) ?_
 refine cq 3 [3] [B (!r3)] 145 ?_
 obtain rfl:=sI h
 exact rP [B (!r3)]
theorem Tr {G:b7}:bZ G 116 B2:=gT 2 0 (aO ju bv) cf Tryz.func116 (fun a r h=>Yv a.1 a.2 r h)
def Gr:((List Int)×Contract)→List V:=cA (gj I) (oA (fun x:Contract=>(.fn 116 [.iptr (aP x) 0]:V)))
def Gs (r:Int):V×List V:=(I r,[])
noncomputable def Dc :=bi [false,false] Gr Gs fun x=>JF x.1 x.2
theorem afl {s_1:List Int}{f_2:Contract}{r}(h:JF s_1 f_2=some r):Dc.F (Gr (s_1,f_2))=some (Gs r):=aJ (aN (cn bc) (aK (iE bb))) h
noncomputable def VL :=aH Tryz.f153
noncomputable def Nm :=ce [(116,B2)]
def VK (x:(List Int)×Contract)(r:Int):St→Prop:=QF Nm Tryz.f153 [false,false] (Gr x) (Gs r)
theorem PR (s_1:List Int)(f_2:Contract):cj Nm 0 (VK (s_1,f_2)) (cL (cL (cR (cL (cR VL))))) 0 (uO s_1 f_2) (fun u=>(sT 19 [] [] 1)) fun x3=>(sT 19 [(0,.isl false (s_1.map I)),(1,.fn 116 [.iptr (aa f_2) 0]),(7,I (len s_1)),(8,I x3)] [] 1):=ef (AQ s_1 f_2) fun {Q K} hK self ih x3 y h hr hn=>by
 unfold ow at h
 refine cq 5 [9] [B (decide (x3<(len s_1)))] 17 ?_
 refine sq h ?_ ?_<;>intro h
 ·refine aq 1 ?_
  refine cq 12 [5,11,12,13] [I x3,.fn 116 [.iptr (aa f_2) 0],.isl false (s_1.map I),I x3] 97 ?_
  obtain⟨e4,he4,h⟩:=bS h
  refine oq 113 (.iptr (I e4) 0) rfl (al rfl rfl rfl (bo rfl rfl rfl rfl he4)) ?_
  refine cq 1 [15] [I e4] 129 ?_
  obtain⟨r5,hr5,h⟩:=bS h
  refine oq 145 (B r5) rfl (cP (adL hr5)) ?_
  refine aq 1 ?_
  refine sq h ?_ ?_<;>intro h
  ·refine cq 5 [4] [I x3] 177 ?_
   exact b8 rfl (hr _ (an h) _ (qp [I x3]))
  ·refine aq 1 ?_
   refine cq 5 [8] [I (ac (x3+1))] 177 ?_
   refine cY ?_
   exact rf [0,1,7,8] [] (ih _ _ h hr hn :)
 ·refine aq 1 ?_
  exact rf [] [] (hn _ (an h) :) (hk:=hK)
theorem Zx (s_1:List Int)(f_2:Contract)(r:Int)(h:JF s_1 f_2=some r):br Nm Tryz.f153 [false,false] 0 (Gr (s_1,f_2)) (Gs r):=by
 show Run _ _ (VK (s_1,f_2) r) [.code VL] _
 refine rI 19 [(0,.isl false (s_1.map I)),(1,.fn 116 [.iptr (aa f_2) 0])] [] 1 ?_
 unfold JF at h
 refine cq 8 [6] [.isl false (s_1.map I)] 33 ?_
 refine oq 49 (I (len s_1)) rfl (bw rfl rfl rfl (bN rfl)) ?_
 refine cq 3 [8] [I (0)] 65 ?_
 obtain⟨y6,hy6,hy61,hy62⟩:=bJ h
 refine bO rfl ?_
 refine rf [0,1,7,8] [] (PR s_1 f_2 rfl 0 _ hy6 (fun r' e st hq=>by rw[hy61 r' e] at hq;exact hq) fun u6 hu=>?_)
 replace h:=hy62 u6 hu
 refine cq 4 [4] [I (-1)] 17 ?_
 obtain rfl:=sI h
 exact rP [I (-1)]
theorem VM {G:b7}:bZ G 153 Dc:=gT 2 0 (aO Tr bv) cf Tryz.func153 (fun a r h=>Zx a.1 a.2 r h)
def Gc:((List Int)×Contract)→List V:=cA (gj I) (oA (fun x:Contract=>(.fn 116 [.iptr (aP x) 0]:V)))
def Gd (r:Bool):V×List V:=(B r,[])
noncomputable def C6 :=bi [false,false] Gc Gd fun x=>Jz x.1 x.2
theorem ae7 {s_1:List Int}{f_2:Contract}{r}(h:Jz s_1 f_2=some r):C6.F (Gc (s_1,f_2))=some (Gd r):=aJ (aN (cn bc) (aK (iE bb))) h
noncomputable def ae9 :=aH Tryz.f115
noncomputable def Vu :=ce [(153,Dc)]
def ae8 (x:(List Int)×Contract)(r:Bool):St→Prop:=QF Vu Tryz.f115 [false,false] (Gc x) (Gd r)
theorem Zq (s_1:List Int)(f_2:Contract)(r:Bool)(h:Jz s_1 f_2=some r):br Vu Tryz.f115 [false,false] 0 (Gc (s_1,f_2)) (Gd r):=by
 show Run _ _ (ae8 (s_1,f_2) r) [.code ae9] _
 refine rI 9 [(0,.isl false (s_1.map I)),(1,.fn 116 [.iptr (aa f_2) 0])] [] 1 ?_
 unfold Jz at h
 refine cq 8 [5,6] [.isl false (s_1.map I),.fn 116 [.iptr (aa f_2) 0]] 49 ?_
 obtain⟨r3,hr3,h⟩:=bS h
 refine oq 65 (I r3) rfl (bG rfl rfl (bX rfl rfl rfl (bg (bT rfl) (bg (nk (dD (fS rfl) gK)) cX)) (afl hr3) (.inr rfl) dF rfl rfl rfl)) ?_
 refine cq 3 [4] [B (decide (r3≥0))] 97 ?_
 obtain rfl:=sI h
 exact rP [B (decide (r3≥0))]
theorem Vv {G:b7}:bZ G 115 C6:=gT 2 0 (aO VM bv) cf Tryz.func115 (fun a r h=>Zq a.1 a.2 r h)
def Ew:(Contract×State×(List Int))→List V:=cA aP (cA bH (oA (gj I)))
def Ey (r:Bool):V×List V:=(B r,[])
noncomputable def B0 :=bi [false,false,false] Ew Ey fun x=>BZ x.1 x.2.1 x.2.2
theorem adK {c_1:Contract}{s_2:State}{gC:List Int}{r}(h:BZ c_1 s_2 gC=some r):B0.F (Ew (c_1,s_2,gC))=some (Ey r):=aJ (aN bb (aN cd (aK (cn bc)))) h
noncomputable def Tn :=aH Tryz.f68
noncomputable def ML :=ce [(77,JQ),(115,C6)]
def Ex (x:Contract×State×(List Int))(r:Bool):St→Prop:=QF ML Tryz.f68 [false,false,false] (Ew x) (Ey r)
theorem Yu (c_1:Contract)(s_2:State)(gC:List Int)(r:Bool)(h:BZ c_1 s_2 gC=some r):br ML Tryz.f68 [false,false,false] 0 (Ew (c_1,s_2,gC)) (Ey r):=by
 show Run _ _ (Ex (c_1,s_2,gC) r) [.code Tn] _
 refine rI 16 [(0,aa c_1),(1,ai s_2),(2,.isl false (gC.map I))] [] 1 ?_
 unfold BZ at h
 refine ck 10 [3,7,8] [] [1] [] [.hp 1 0 [] 2 0 0,aa c_1,ai s_2] [some ⟨0,2,[aa c_1]⟩] 81 (by kernel_rfl) ?_
 obtain⟨r4,hr4,h⟩:=bS h
 refine oq 97 (B r4) rfl (cP (agM hr4)) ?_
 refine cq 1 [10] [B r4] 113 ?_
 obtain⟨y5,hy5,hy51,hy52⟩:=bJ h
 have j5:∀u5,y5=.inr u5→Run ML 0 (Ex (c_1,s_2,gC) r) (.code (cR (cR Tn))::[]) (sT 16 [(6,B u5)] [] 1):=by
  intro u5 hu
  replace h:=hy52 u5 hu
  obtain rfl:=sI h
  exact rP [B u5]
 have r5:∀r',y5=.inl r'→∀st,Ex (c_1,s_2,gC) r' st→(Ex (c_1,s_2,gC) r) st:=fun r' e st hq=>by rw[hy51 r' e] at hq;exact hq
 replace h:=hy5
 refine sp 10 h rfl ?_ ?_<;>intro h
 ·refine cq 2 [11,12] [.isl false (gC.map I),.fn 116 [.hp 1 0 [] 2 0 0]] 145 ?_
  obtain⟨r6,hr6,h⟩:=bS h
  refine oy 161 (B r6) rfl (bG rfl rfl (bX rfl rfl rfl (bg (bT rfl) (bg (nk (dD (rc (path:=[]) rfl rfl aE rfl rfl) gK)) cX)) (ae7 hr6) (.inl rfl) dF rfl rfl rfl)) ?_
  refine cq 4 [6] [B (!r6)] 209 ?_
  exact rf [6] [] (j5 _ (an h) :)
 ·refine cq 7 [6] [B false] 209 ?_
  exact rf [6] [] (j5 _ (an h) :)
theorem Tp {G:b7}:bZ G 68 B0:=gT 3 0 (aO aag (aO Vv bv)) cf Tryz.func68 (fun a r h=>Yu a.1 a.2.1 a.2.2 r h)
def Ma:(Duty×Clause×Int)→List V:=cA ah (cA au (oA (fun x:Int=>.iptr (I x) 0)))
def Mb (r:Bool):V×List V:=(B r,[])
noncomputable def JX :=bi [false,false,false] Ma Mb fun x=>Q0 x.1 x.2.1 x.2.2
theorem abQ {d_1:Duty}{x_2:Clause}{a_3:Int}{r}(h:Q0 d_1 x_2 a_3=some r):JX.F (Ma (d_1,x_2,a_3))=some (Mb r):=aJ (aN eh (aN dV (aK (mt bc)))) h
noncomputable def agY :=aH Tryz.f120
noncomputable def abP :=ce []
def agX (x:Duty×Clause×Int)(r:Bool):St→Prop:=QF abP Tryz.f120 [false,false,false] (Ma x) (Mb r)
theorem acJ (d_1:Duty)(x_2:Clause)(a_3:Int)(r:Bool)(h:Q0 d_1 x_2 a_3=some r):br abP Tryz.f120 [false,false,false] 0 (Ma (d_1,x_2,a_3)) (Mb r):=by
 show Run _ _ (agX (d_1,x_2,a_3) r) [.code agY] _
 refine rI 10 [(0,ah d_1),(1,aB x_2),(2,.iptr (I a_3) 0)] [] 1 ?_
 unfold Q0 at h
 refine cq 14 [5] [B (x_2.Party==a_3)] 129 ?_
 obtain rfl:=sI h
 exact rP [B (x_2.Party==a_3)]
theorem aan {G:b7}:bZ G 120 JX:=gT 3 0 bv cf Tryz.func120 (fun a r h=>acJ a.1 a.2.1 a.2.2 r h)
def LK:Int→List V:=oA I
def LL (r:Bool):V×List V:=(B r,[])
noncomputable def Jr :=bi [false] LK LL fun x=>MK x
theorem abG {x_1:Int}{r}(h:MK x_1=some r):Jr.F (LK x_1)=some (LL r):=aJ (aK bc) h
noncomputable def agF :=aH Tryz.f155
noncomputable def abF :=ce []
def agE (x:Int)(r:Bool):St→Prop:=QF abF Tryz.f155 [false] (LK x) (LL r)
theorem aci (x_1:Int)(r:Bool)(h:MK x_1=some r):br abF Tryz.f155 [false] 0 (LK x_1) (LL r):=by
 show Run _ _ (agE x_1 r) [.code agF] _
 refine rI 6 [(0,I x_1)] [] 1 ?_
 unfold MK at h
 refine cq 11 [2] [B (x_1 != x_1)] 81 ?_
 obtain rfl:=sI h
 exact rP [B (x_1 != x_1)]
theorem Yt {G:b7}:bZ G 155 Jr:=gT 1 0 bv cf Tryz.func155 (fun a r h=>aci a r h)
def LI:(Int×Int)→List V:=cA I (oA I)
def LJ (r:Int):V×List V:=(I r,[])
noncomputable def Jq :=bi [false,false] LI LJ fun x=>MJ x.1 x.2
theorem abE {x_1:Int}{y_2:Int}{r}(h:MJ x_1 y_2=some r):Jq.F (LI (x_1,y_2))=some (LJ r):=aJ (aN bc (aK bc)) h
noncomputable def agD :=aH Tryz.f119
noncomputable def abD :=ce [(155,Jr)]
def agC (x:Int×Int)(r:Int):St→Prop:=QF abD Tryz.f119 [false,false] (LI x) (LJ r)
theorem ach (x_1:Int)(y_2:Int)(r:Int)(h:MJ x_1 y_2=some r):br abD Tryz.f119 [false,false] 0 (LI (x_1,y_2)) (LJ r):=by
 show Run _ _ (agC (x_1,y_2) r) [.code agD] _
 refine rI 20 [(0,I x_1),(1,I y_2)] [] 1 ?_
 unfold MJ at h
 refine cq 7 [7] [I x_1] 33 ?_
 obtain⟨r3,hr3,h⟩:=bS h
 refine oq 49 (B r3) rfl (cP (abG hr3)) ?_
 refine cq 5 [5,9] [B r3,I y_2] 81 ?_
 obtain⟨r4,hr4,h⟩:=bS h
 refine oq 97 (B r4) rfl (cP (abG hr4)) ?_
 refine cq 7 [6,11] [B r4,B r3] 129 ?_
 refine sq h ?_ ?_<;>intro h
 ·refine cq 5 [12] [B r4] 145 ?_
  refine sq h ?_ ?_<;>intro h
  ·refine cq 4 [4] [I (0)] 161 ?_
   obtain rfl:=sI h
   exact rP [I (0)]
  ·refine aq 1 ?_
   refine cq 4 [4] [I (-1)] 161 ?_
   obtain rfl:=sI h
   exact rP [I (-1)]
 ·refine aq 1 ?_
  refine cq 5 [13] [B r4] 145 ?_
  refine sq h ?_ ?_<;>intro h
  ·refine cq 4 [4] [I (1)] 161 ?_
   obtain rfl:=sI h
   exact rP [I (1)]
  ·refine aq 1 ?_
   refine cq 7 [16] [B (decide (x_1<y_2))] 193 ?_
   refine sq h ?_ ?_<;>intro h
   ·refine cq 4 [4] [I (-1)] 209 ?_
    obtain rfl:=sI h
    exact rP [I (-1)]
   ·refine aq 1 ?_
    refine cq 7 [19] [B (decide (x_1>y_2))] 241 ?_
    refine sq h ?_ ?_<;>intro h
    ·refine cq 4 [4] [I (1)] 257 ?_
     obtain rfl:=sI h
     exact rP [I (1)]
    ·refine aq 1 ?_
     refine cq 4 [4] [I (0)] 257 ?_
     obtain rfl:=sI h
     exact rP [I (0)]
theorem Ys {G:b7}:bZ G 119 Jq:=gT 2 0 (aO Yt bv) cf Tryz.func119 (fun a r h=>ach a.1 a.2 r h)
def Mc:(Int×Int×State)→List V:=cA I (cA I (oA (fun x:State=>.iptr (bH x) 0)))
def Md (r:Int):V×List V:=(I r,[])
noncomputable def zM :=bi [false,false,false] Mc Md fun x=>Bx x.1 x.2.1 x.2.2
theorem tk {i_1:Int}{k_2:Int}{a_3:State}{r}(h:Bx i_1 k_2 a_3=some r):zM.F (Mc (i_1,k_2,a_3))=some (Md r):=aJ (aN bc (aN bc (aK (mt cd)))) h
noncomputable def ag0 :=aH Tryz.f118
noncomputable def abR :=ce [(119,Jq)]
def agZ (x:Int×Int×State)(r:Int):St→Prop:=QF abR Tryz.f118 [false,false,false] (Mc x) (Md r)
theorem acK (i_1:Int)(k_2:Int)(a_3:State)(r:Int)(h:Bx i_1 k_2 a_3=some r):br abR Tryz.f118 [false,false,false] 0 (Mc (i_1,k_2,a_3)) (Md r):=by
 show Run _ _ (agZ (i_1,k_2,a_3) r) [.code ag0] _
 refine rI 19 [(0,I i_1),(1,I k_2),(2,.iptr (ai a_3) 0)] [] 1 ?_
 unfold Bx at h
 refine cq 5 [] [] 17 ?_
 refine eb [0,1,0,7,15,31,0,64,0,448,960,1984,4095,8191] rfl (by decide +kernel) ?_
 refine dq [] [] (.iptr (ai a_3) 2) rfl (az rfl rfl rfl) ?_
 refine dq [] [] (.isl false (a_3.Duties.map ah)) rfl (aX rfl rfl) ?_
 refine dk 1 [8] [I i_1] ?_
 obtain⟨e4,he4,h⟩:=bS h
 refine dq [] [] (.iptr (ah e4) 0) rfl (al rfl rfl rfl (bo rfl rfl rfl rfl he4)) ?_
 refine dq [] [] (.iptr (ah e4) 2) rfl (az rfl rfl rfl) ?_
 refine dq [] [] (I e4.Due) rfl (aX rfl rfl) ?_
 refine dq [] [] (.iptr (ai a_3) 2) rfl (az rfl rfl rfl) ?_
 refine dq [] [] (.isl false (a_3.Duties.map ah)) rfl (aX rfl rfl) ?_
 refine dk 1 [14] [I k_2] ?_
 obtain⟨e5,he5,h⟩:=bS h
 refine dq [] [] (.iptr (ah e5) 0) rfl (al rfl rfl rfl (bo rfl rfl rfl rfl he5)) ?_
 refine dq [] [] (.iptr (ah e5) 2) rfl (az rfl rfl rfl) ?_
 refine dq [] [] (I e5.Due) rfl (aX rfl rfl) ?_
 obtain⟨r6,hr6,h⟩:=bS h
 refine dq [] [] (I r6) rfl (cP (abE hr6)) ?_ (d3 rfl rfl rfl rfl (bg (bT rfl) (bg (bT rfl) cX)) (abE hr6) (.inr rfl) rfl)
 refine dk 1 [5] [I r6] ?_
 refine de 241 rfl rfl ?_
 obtain rfl:=sI h
 exact rP [I r6]
theorem NW {G:b7}:bZ G 118 zM:=gT 3 0 (aO Ys bv) cf Tryz.func118 (fun a r h=>acK a.1 a.2.1 a.2.2 r h)
def GC:((List Int)×Int×Int×State)→List V:=cA (o9 1 I) (cA I (cA I (oA (fun x:State=>(.fn 118 [.iptr (bH x) 0]:V)))))
def GE (r:(List Int)):V×List V:=(.tup [],[.usl 1 (r.map I)])
noncomputable def Di :=bi [true,false,false,false] GC GE fun x=>sh x.1 x.2.1 x.2.2.1 x.2.2.2
theorem VY {cD:List Int}{eS:Int}{eX:Int}{dh:State}{r}(h:sh cD eS eX dh=some r):Di.F (GC (cD,eS,eX,dh))=some (GE r):=aJ (aN (fu bc) (aN bc (aN bc (aK (iE cd))))) h
noncomputable def Nq :=aH Tryz.f180
noncomputable abbrev zD :=cL (cL (cR (cL (cL (cR (cL (cL (cR Nq))))))))
noncomputable def xY :=ce [(118,zM)]
def GD (x:(List Int)×Int×Int×State)(r:(List Int)):St→Prop:=QF xY Tryz.f180 [true,false,false,false] (GC x) (GE r)
theorem PW (cD:List Int)(eS:Int)(eX:Int)(dh:State)(x5:Int×Int×Int×(List Int)):cj xY 1 (GD (cD,eS,eX,dh)) zD 2 (ln cD eS eX dh x5) (fun u=>(sT 53 [(0,.hs 1 0 [] 1 0 (u.map I).length),(1,I x5.1),(2,I x5.2.1),(3,.fn 118 [.iptr (ai dh) 0]),(8,I x5.2.2.1)] [⟨0,1,u.map I⟩] 2)) fun x6=>(sT 53 [(0,.hs 1 0 [] 1 0 (x6.2.map I).length),(1,I x5.1),(2,I x5.2.1),(3,.fn 118 [.iptr (ai dh) 0]),(8,I x5.2.2.1),(9,I x6.1)] [⟨0,1,x6.2.map I⟩] 2):=ef (AX cD eS eX dh x5) fun {Q K} hK self ih x6 y h hr hn=>by
 unfold kx at h
 refine aq 2 ?_
 refine eb [0,0,3,7,15,15,15,111,239,15,15,1039,3599,7695,16383,32767,65535] rfl (by decide +kernel) ?_
 refine dk 4 [21,20,19,18] [B (decide (x6.1>x5.1)),B (decide (x6.1>x5.1)),I x5.1,I x6.1] ?_
 obtain⟨y7,hy7,hy71,hy72⟩:=bL h
 have j7:∀u7,y7=.inr u7→Run xY 1 Q (.code (cR (cL zD))::.code (cR zD)::.lp zD::.blk 2::K) (sT 53 [(0,.hs 1 0 [] 1 0 (x6.2.map I).length),(1,I x5.1),(2,I x5.2.1),(3,.fn 118 [.iptr (ai dh) 0]),(8,I x5.2.2.1),(9,I x6.1),(34,B u7)] [⟨0,1,x6.2.map I⟩] 2):=by
  intro u7 hu
  replace h:=hy72 u7 hu
  refine sq h ?_ ?_<;>intro h
  ·refine aq 1 ?_
   refine aq 2 ?_
   refine eb [0,0,0,0,8,0,0,64,224,480,0,0,3072,7168,16355,32739,65535,131071] rfl (by decide +kernel) ?_
   refine dk 8 [44,43,42,41,40,39,38,37] [I (ac (x6.1 - 1)),I x6.1,.hs 1 0 [] 1 0 (x6.2.map I).length,I (ac (x6.1 - 1)),I x6.1,.hs 1 0 [] 1 0 (x6.2.map I).length,I x6.1,.hs 1 0 [] 1 0 (x6.2.map I).length] ?_
   obtain⟨e8,he8,h⟩:=bS h
   refine dq [1] [] (.hp 1 0 [] 1 (0+Int.toNat (ac (x6.1 - 1))) 0) rfl (al rfl rfl rfl (cp (f:=I) (xs:=x6.2) rfl rfl rfl he8)) ?_
   refine dq [1] [] (I e8) rfl (aX rfl (gk (path:=[]) rfl rfl rfl aE (bU (f:=I) (xs:=x6.2) he8) rfl rfl rfl)) ?_
   refine dk 2 [48,47] [I x6.1,.hs 1 0 [] 1 0 (x6.2.map I).length] ?_
   obtain⟨e9,he9,h⟩:=bS h
   refine dq [1] [] (.hp 1 0 [] 1 (0+Int.toNat x6.1) 0) rfl (al rfl rfl rfl (cp (f:=I) (xs:=x6.2) rfl rfl rfl he9)) ?_
   refine dq [1] [] (I e9) rfl (aX rfl (gk (path:=[]) rfl rfl rfl aE (bU (f:=I) (xs:=x6.2) he9) rfl rfl rfl)) ?_
   obtain⟨e10,he10,h⟩:=bS h
   refine dq [1] [] (.hp 1 0 [] 1 (0+Int.toNat x6.1) 0) rfl (al rfl rfl rfl (cp (f:=I) (xs:=x6.2) rfl rfl rfl he10)) ?_
   refine dz [1] [1] rfl (et rfl rfl (dG (path:=[]) (pl:=true) (e':=I e8) (es2':=(bM x6.2 x6.1 e8).map I) rfl (ba rfl) rfl rfl rfl aE (bU (f:=I) (xs:=x6.2) he10) rfl rfl rfl (gD (f:=I) (xs:=x6.2) (y:=e8)) cM 0 rfl)) ?_
   try rw[←fK (f:=I) (xs:=x6.2) (i:=x6.1) (z:=e8)]
   obtain⟨e13,he13,h⟩:=bS h
   refine dq [1] [] (.hp 1 0 [] 1 (0+Int.toNat (ac (x6.1 - 1))) 0) rfl (al rfl rfl rfl (cp (f:=I) (xs:=(bM x6.2 x6.1 e8)) rfl rfl rfl he13)) ?_
   obtain⟨rw14,hrw14,h⟩:=lJ h
   refine dz [1] [1] rfl (et rfl rfl (dG (path:=[]) (pl:=true) (e':=I e9) (es2':=(rw14).map I) rfl (ba rfl) rfl rfl rfl aE (bU (f:=I) (xs:=(bM x6.2 x6.1 e8)) he13) rfl rfl rfl (fM (f:=I) (xs:=(bM x6.2 x6.1 e8)) (y:=e9) hrw14) cM 0 rfl)) ?_
   try rw[←eE hrw14 (f:=I) (xs:=(bM x6.2 x6.1 e8))]
   refine de 290 rfl rfl ?_
   refine cq 6 [9] [I (ac (x6.1 - 1))] 338 ?_
   refine cY ?_
   exact rf [0,1,2,3,8,9] [1] (ih _ _ h hr hn :)
  ·refine aq 1 ?_
   exact rf [0,1,2,3,8] [1] (hn _ (an h) :) (hk:=hK)
 have r7:∀r',y7=.inl r'→∀st,GD (cD,eS,eX,dh) r' st→Q st:=fun r' e st hq=>hr r' (hy71 r' e) st hq
 replace h:=hy7
 refine sp 21 h rfl ?_ ?_<;>intro h
 ·refine dk 3 [24,23,22] [I x6.1,.hs 1 0 [] 1 0 (x6.2.map I).length,.fn 118 [.iptr (ai dh) 0]] ?_
  obtain⟨e18,he18,h⟩:=bS h
  refine dy [1] [] (.hp 1 0 [] 1 (0+Int.toNat x6.1) 0) rfl (al rfl rfl rfl (cp (f:=I) (xs:=x6.2) rfl rfl rfl he18)) ?_
  refine dy [1] [] (I e18) rfl (aX rfl (gk (path:=[]) rfl rfl rfl aE (bU (f:=I) (xs:=x6.2) he18) rfl rfl rfl)) ?_
  refine dk 3 [29,28,27] [I (ac (x6.1 - 1)),I x6.1,.hs 1 0 [] 1 0 (x6.2.map I).length] ?_
  obtain⟨e19,he19,h⟩:=bS h
  refine dy [1] [] (.hp 1 0 [] 1 (0+Int.toNat (ac (x6.1 - 1))) 0) rfl (al rfl rfl rfl (cp (f:=I) (xs:=x6.2) rfl rfl rfl he19)) ?_
  refine dy [1] [] (I e19) rfl (aX rfl (gk (path:=[]) rfl rfl rfl aE (bU (f:=I) (xs:=x6.2) he19) rfl rfl rfl)) ?_
  obtain⟨r20,hr20,h⟩:=bS h
  refine dy [] [] (I r20) rfl (cP (tk hr20)) ?_ (d3 rfl rfl rfl rfl (bg (bT rfl) (bg (bT rfl) (bg (bT rfl) cX))) (tk hr20) (.inr rfl) rfl)
  refine dk 2 [34,33] [B (decide (r20<0)),B (decide (r20<0))] ?_
  refine de 274 rfl rfl ?_
  exact rf [0,1,2,3,8,9,34] [1] (j7 _ (an h) :)
 ·refine dk 13 [34,33,32,31,30,29,28,27,26,25,24,23,22] [B false,.und,.und,.und,.und,.und,.und,.und,.und,.und,.und,.und,.und] ?_
  refine de 274 rfl rfl ?_
  exact rf [0,1,2,3,8,9,34] [1] (j7 _ (an h) :)
theorem PV (cD:List Int)(eS:Int)(eX:Int)(dh:State):cj xY 1 (GD (cD,eS,eX,dh)) (cL (cL (cR Nq))) 0 (mI cD eS eX dh) (fun u=>(sT 53 [] [⟨0,1,u.map I⟩] 2)) fun x5=>(sT 53 [(0,.hs 1 0 [] 1 0 (x5.2.2.2.map I).length),(1,I x5.1),(2,I x5.2.1),(3,.fn 118 [.iptr (ai dh) 0]),(8,I x5.2.2.1)] [⟨0,1,x5.2.2.2.map I⟩] 2):=ef (AW cD eS eX dh) fun {Q K} hK self ih x5 y h hr hn=>by
 unfold kw at h
 refine cq 7 [14] [B (decide (x5.2.2.1<x5.2.1))] 50 ?_
 refine sq h ?_ ?_<;>intro h
 ·refine aq 1 ?_
  refine cq 8 [9] [I x5.2.2.1] 82 ?_
  obtain⟨y21,hy21,hy211,hy212⟩:=bL h
  refine bO rfl ?_
  refine rf [0,1,2,3,8,9] [1] (PW cD eS eX dh x5 rfl (x5.2.2.1,x5.2.2.2) _ hy21 (fun r' e st hq=>hr r' (hy211 r' e) st hq) fun u21 hu=>?_)
  replace h:=hy212 u21 hu
  refine cq 6 [8] [I (ac (x5.2.2.1+1))] 50 ?_
  refine cY ?_
  exact rf [0,1,2,3,8] [1] (ih _ _ h hr hn :)
 ·refine aq 1 ?_
  exact rf [] [1] (hn _ (an h) :) (hk:=hK)
theorem ZC (cD:List Int)(eS:Int)(eX:Int)(dh:State)(r:(List Int))(h:sh cD eS eX dh=some r):br xY Tryz.f180 [true,false,false,false] 1 (GC (cD,eS,eX,dh)) (GE r):=by
 show Run _ _ (GD (cD,eS,eX,dh) r) [.code Nq] _
 refine rI 53 [(0,.hs 1 0 [] 1 0 (cD.map I).length),(1,I eS),(2,I eX),(3,.fn 118 [.iptr (ai dh) 0])] [(1,some ⟨0,1,cD.map I⟩)] 2 ?_
 unfold sh at h
 refine cq 7 [8] [I (ac (eS+1))] 50 ?_
 obtain⟨y22,hy22,hy221,hy222⟩:=bJ h
 refine bO rfl ?_
 refine rf [0,1,2,3,8] [1] (PV cD eS eX dh rfl (eS,eX,(ac (eS+1)),cD) _ hy22 (fun r' e st hq=>by rw[hy221 r' e] at hq;exact hq) fun u22 hu=>?_)
 replace h:=hy222 u22 hu
 obtain⟨g23,h⟩:=gG h
 obtain rfl:=sI h
 exact Ab ⟨_,fin (vs:=[]) rfl dU rfl (jq rfl (ko (f:=I) (xs:=u22) (by simpa using g23) rfl) (cu (cu (cu eN)))),qi eH⟩
theorem VZ {G:b7}:bZ G 180 Di:=gT 4 1 (aO NW bv) cf Tryz.func180 (fun a r h=>ZC a.1 a.2.1 a.2.2.1 a.2.2.2 r h)
def GK:((List Int)×Int×Int×Int×State)→List V:=cA (o9 1 I) (cA I (cA I (cA I (oA (fun x:State=>(.fn 118 [.iptr (bH x) 0]:V))))))
def GL (r:(List Int)):V×List V:=(.tup [],[.usl 1 (r.map I)])
noncomputable def Dm :=bi [true,false,false,false,false] GK GL fun x=>wc x.1 x.2.1 x.2.2.1 x.2.2.2.1 x.2.2.2.2
theorem Nv {ez:List Int}{fk:Int}{f8:Int}{ig:Int}{fO:State}{r}(h:wc ez fk f8 ig fO=some r):Dm.F (GK (ez,fk,f8,ig,fO))=some (GL r):=aJ (aN (fu bc) (aN bc (aN bc (aN bc (aK (iE cd)))))) h
noncomputable def V3 :=aH Tryz.f216
noncomputable def Nu :=ce []
def V2 (x:(List Int)×Int×Int×Int×State)(r:(List Int)):St→Prop:=QF Nu Tryz.f216 [true,false,false,false,false] (GK x) (GL r)
theorem P1 (ez:List Int)(fk:Int)(f8:Int)(ig:Int)(fO:State):cj Nu 1 (V2 (ez,fk,f8,ig,fO)) (cL (cL (cR V3))) 0 (mJ ez fk f8 ig fO) (fun u=>(sT 38 [] [⟨0,1,u.map I⟩] 2)) fun x6=>(sT 38 [(0,.hs 1 0 [] 1 0 (x6.2.map I).length),(1,I fk),(2,I f8),(3,I ig),(10,I x6.1)] [⟨0,1,x6.2.map I⟩] 2):=ef (A7 ez fk f8 ig fO) fun {Q K} hK self ih x6 y h hr hn=>by
 unfold l4 at h
 refine cq 7 [13] [B (decide (x6.1<ig))] 50 ?_
 refine sq h ?_ ?_<;>intro h
 ·refine aq 1 ?_
  refine aq 2 ?_
  refine eb [0,0,0,6,0,0,0,96,0,0,0,1536,3840,7936,0,0,0,98304,245760,507904,1048335,2096911,4194303,8388607] rfl (by decide +kernel) ?_
  refine dk 12 [27,26,25,24,23,22,21,20,19,18,17,16] [I (ac (f8+x6.1)),I x6.1,I f8,.hs 1 0 [] 1 0 (x6.2.map I).length,I (ac (f8+x6.1)),I x6.1,I f8,.hs 1 0 [] 1 0 (x6.2.map I).length,I (ac (fk+x6.1)),I x6.1,I fk,.hs 1 0 [] 1 0 (x6.2.map I).length] ?_
  obtain⟨e7,he7,h⟩:=bS h
  refine dq [1] [] (.hp 1 0 [] 1 (0+Int.toNat (ac (f8+x6.1))) 0) rfl (al rfl rfl rfl (cp (f:=I) (xs:=x6.2) rfl rfl rfl he7)) ?_
  refine dq [1] [] (I e7) rfl (aX rfl (gk (path:=[]) rfl rfl rfl aE (bU (f:=I) (xs:=x6.2) he7) rfl rfl rfl)) ?_
  refine dk 4 [33,32,31,30] [I (ac (fk+x6.1)),I x6.1,I fk,.hs 1 0 [] 1 0 (x6.2.map I).length] ?_
  obtain⟨e8,he8,h⟩:=bS h
  refine dq [1] [] (.hp 1 0 [] 1 (0+Int.toNat (ac (fk+x6.1))) 0) rfl (al rfl rfl rfl (cp (f:=I) (xs:=x6.2) rfl rfl rfl he8)) ?_
  refine dq [1] [] (I e8) rfl (aX rfl (gk (path:=[]) rfl rfl rfl aE (bU (f:=I) (xs:=x6.2) he8) rfl rfl rfl)) ?_
  obtain⟨e9,he9,h⟩:=bS h
  refine dq [1] [] (.hp 1 0 [] 1 (0+Int.toNat (ac (fk+x6.1))) 0) rfl (al rfl rfl rfl (cp (f:=I) (xs:=x6.2) rfl rfl rfl he9)) ?_
  refine dz [1] [1] rfl (et rfl rfl (dG (path:=[]) (pl:=true) (e':=I e7) (es2':=(bM x6.2 (ac (fk+x6.1)) e7).map I) rfl (ba rfl) rfl rfl rfl aE (bU (f:=I) (xs:=x6.2) he9) rfl rfl rfl (gD (f:=I) (xs:=x6.2) (y:=e7)) cM 0 rfl)) ?_
  try rw[←fK (f:=I) (xs:=x6.2) (i:=(ac (fk+x6.1))) (z:=e7)]
  obtain⟨e12,he12,h⟩:=bS h
  refine dq [1] [] (.hp 1 0 [] 1 (0+Int.toNat (ac (f8+x6.1))) 0) rfl (al rfl rfl rfl (cp (f:=I) (xs:=(bM x6.2 (ac (fk+x6.1)) e7)) rfl rfl rfl he12)) ?_
  obtain⟨rw13,hrw13,h⟩:=lJ h
  refine dz [1] [1] rfl (et rfl rfl (dG (path:=[]) (pl:=true) (e':=I e8) (es2':=(rw13).map I) rfl (ba rfl) rfl rfl rfl aE (bU (f:=I) (xs:=(bM x6.2 (ac (fk+x6.1)) e7)) he12) rfl rfl rfl (fM (f:=I) (xs:=(bM x6.2 (ac (fk+x6.1)) e7)) (y:=e8) hrw13) cM 0 rfl)) ?_
  try rw[←eE hrw13 (f:=I) (xs:=(bM x6.2 (ac (fk+x6.1)) e7))]
  refine de 434 rfl rfl ?_
  refine cq 6 [10] [I (ac (x6.1+1))] 482 ?_
  refine cY ?_
  exact rf [0,1,2,3,10] [1] (ih _ _ h hr hn :)
 ·refine aq 1 ?_
  exact rf [] [1] (hn _ (an h) :) (hk:=hK)
theorem ZF (ez:List Int)(fk:Int)(f8:Int)(ig:Int)(fO:State)(r:(List Int))(h:wc ez fk f8 ig fO=some r):br Nu Tryz.f216 [true,false,false,false,false] 1 (GK (ez,fk,f8,ig,fO)) (GL r):=by
 show Run _ _ (V2 (ez,fk,f8,ig,fO) r) [.code V3] _
 refine rI 38 [(0,.hs 1 0 [] 1 0 (ez.map I).length),(1,I fk),(2,I f8),(3,I ig),(4,.fn 118 [.iptr (ai fO) 0])] [(1,some ⟨0,1,ez.map I⟩)] 2 ?_
 unfold wc at h
 refine cq 5 [10] [I (0)] 18 ?_
 obtain⟨y17,hy17,hy171,hy172⟩:=bJ h
 refine bO rfl ?_
 refine rf [0,1,2,3,10] [1] (P1 ez fk f8 ig fO rfl (0,ez) _ hy17 (fun r' e st hq=>by rw[hy171 r' e] at hq;exact hq) fun u17 hu=>?_)
 replace h:=hy172 u17 hu
 obtain⟨g18,h⟩:=gG h
 obtain rfl:=sI h
 exact Ab ⟨_,fin (vs:=[]) rfl dU rfl (jq rfl (ko (f:=I) (xs:=u17) (by simpa using g18) rfl) (cu (cu (cu (cu eN))))),qi eH⟩
theorem V4 {G:b7}:bZ G 216 Dm:=gT 5 1 bv cf Tryz.func216 (fun a r h=>ZF a.1 a.2.1 a.2.2.1 a.2.2.2.1 a.2.2.2.2 r h)
def GF:((List Int)×Int×Int×Int×State)→List V:=cA (o9 1 I) (cA I (cA I (cA I (oA (fun x:State=>(.fn 118 [.iptr (bH x) 0]:V))))))
def GH (r:(List Int)):V×List V:=(.tup [],[.usl 1 (r.map I)])
noncomputable def Dj :=bi [true,false,false,false,false] GF GH fun x=>xZ x.1 x.2.1 x.2.2.1 x.2.2.2.1 x.2.2.2.2
theorem afs {eW:List Int}{a_9:Int}{fg:Int}{gX:Int}{ep:State}{r}(h:xZ eW a_9 fg gX ep=some r):Dj.F (GF (eW,a_9,fg,gX,ep))=some (GH r):=aJ (aN (fu bc) (aN bc (aN bc (aN bc (aK (iE cd)))))) h
noncomputable def Ns :=aH Tryz.f193
noncomputable def GG :=ce [(216,Dm)]
def Nr (x:(List Int)×Int×Int×Int×State)(r:(List Int)):St→Prop:=QF GG Tryz.f193 [true,false,false,false,false] (GF x) (GH r)
theorem PX (eW:List Int)(a_9:Int)(fg:Int)(gX:Int)(ep:State):cj GG 1 (Nr (eW,a_9,fg,gX,ep)) (cL (cL (cL (cR (cR Ns))))) 0 (uS eW a_9 fg gX ep) (fun u=>(sT 58 [(0,.hs 1 0 [] 1 0 (u.2.2.map I).length),(2,I u.1),(4,.fn 118 [.iptr (ai ep) 0]),(10,I u.2.1)] [⟨0,1,u.2.2.map I⟩] 2)) fun x6=>(sT 58 [(0,.hs 1 0 [] 1 0 (x6.2.2.map I).length),(2,I fg),(4,.fn 118 [.iptr (ai ep) 0]),(10,I x6.1),(11,I x6.2.1)] [⟨0,1,x6.2.2.map I⟩] 2):=ef (AY eW a_9 fg gX ep) fun {Q K} hK self ih x6 y h hr hn=>by
 unfold oB at h
 refine cq 7 [20] [B (x6.1 != x6.2.1)] 50 ?_
 refine sq h ?_ ?_<;>intro h
 ·refine aq 1 ?_
  refine cq 7 [23] [B (decide (x6.1>x6.2.1))] 98 ?_
  obtain⟨y7,hy7,hy71,hy72⟩:=bL h
  have j7:∀u7,y7=.inr u7→Run GG 1 Q (.blk 1::.lp (cL (cL (cL (cR (cR Ns)))))::.blk 0::K) (sT 58 [(0,.hs 1 0 [] 1 0 (u7.2.2.map I).length),(2,I fg),(4,.fn 118 [.iptr (ai ep) 0]),(10,I u7.1),(11,I u7.2.1)] [⟨0,1,u7.2.2.map I⟩] 2):=by
   intro u7 hu
   replace h:=hy72 u7 hu
   refine aq 1 ?_
   refine cY ?_
   exact rf [0,2,4,10,11] [1] (ih _ _ h hr hn :)
  have r7:∀r',y7=.inl r'→∀st,Nr (eW,a_9,fg,gX,ep) r' st→Q st:=fun r' e st hq=>hr r' (hy71 r' e) st hq
  replace h:=hy7
  refine sq h ?_ ?_<;>intro h
  ·refine cq 9 [24,27,28,29,30] [.hs 1 0 [] 1 0 (x6.2.2.map I).length,I (ac (fg - x6.1)),I fg,I x6.2.1,.fn 118 [.iptr (ai ep) 0]] 210 ?_
   obtain⟨r8,hr8,h⟩:=bS h
   obtain⟨g9,h⟩:=gG h
   refine oq 226 (.tup []) rfl (bG rfl rfl (bX rfl rfl rfl (iC (iH rfl (eO (path:=[]) rfl rfl aE rfl)) (bg (bT rfl) (bg (bT rfl) (bg (bT rfl) (bg (nk (dD (fS rfl) gK)) cX))))) (Nv hr8) (.inr rfl) (gI rfl rfl rfl rfl dF) rfl rfl rfl)) ?_
   try rw[eA (f:=I) (xs:=x6.2.2) (ys:=r8) g9]
   refine cq 7 [10] [I (ac (x6.1 - x6.2.1))] 290 ?_
   exact rf [0,2,4,10,11] [1] (j7 _ (an h) :)
  ·refine cq 13 [35,38,43,44,45] [.hs 1 0 [] 1 0 (x6.2.2.map I).length,I (ac (fg - x6.1)),I (ac ((ac (fg+x6.2.1)) - x6.1)),I x6.1,.fn 118 [.iptr (ai ep) 0]] 274 ?_
   obtain⟨r10,hr10,h⟩:=bS h
   obtain⟨g11,h⟩:=gG h
   refine oq 290 (.tup []) rfl (bG rfl rfl (bX rfl rfl rfl (iC (iH rfl (eO (path:=[]) rfl rfl aE rfl)) (bg (bT rfl) (bg (bT rfl) (bg (bT rfl) (bg (nk (dD (fS rfl) gK)) cX))))) (Nv hr10) (.inr rfl) (gI rfl rfl rfl rfl dF) rfl rfl rfl)) ?_
   try rw[eA (f:=I) (xs:=x6.2.2) (ys:=r10) g11]
   refine cq 7 [11] [I (ac (x6.2.1 - x6.1))] 354 ?_
   exact rf [0,2,4,10,11] [1] (j7 _ (an h) :)
 ·refine aq 1 ?_
  exact rf [0,2,4,10] [1] (hn _ (an h) :) (hk:=hK)
theorem ZD (eW:List Int)(a_9:Int)(fg:Int)(gX:Int)(ep:State)(r:(List Int))(h:xZ eW a_9 fg gX ep=some r):br GG Tryz.f193 [true,false,false,false,false] 1 (GF (eW,a_9,fg,gX,ep)) (GH r):=by
 show Run _ _ (Nr (eW,a_9,fg,gX,ep) r) [.code Ns] _
 refine rI 58 [(0,.hs 1 0 [] 1 0 (eW.map I).length),(1,I a_9),(2,I fg),(3,I gX),(4,.fn 118 [.iptr (ai ep) 0])] [(1,some ⟨0,1,eW.map I⟩)] 2 ?_
 unfold xZ at h
 refine cq 16 [10,11] [I (ac (fg - a_9)),I (ac (gX - fg))] 130 ?_
 obtain⟨y12,hy12,hy121,hy122⟩:=bJ h
 refine bO rfl ?_
 refine rf [0,2,4,10,11] [1] (PX eW a_9 fg gX ep rfl ((ac (fg - a_9)),(ac (gX - fg)),eW) _ hy12 (fun r' e st hq=>by rw[hy121 r' e] at hq;exact hq) fun u12 hu=>?_)
 replace h:=hy122 u12 hu
 refine cq 8 [50,53,54,55,56] [.hs 1 0 [] 1 0 (u12.2.2.map I).length,I (ac (u12.1 - u12.2.1)),I u12.1,I u12.2.1,.fn 118 [.iptr (ai ep) 0]] 114 ?_
 obtain⟨r13,hr13,h⟩:=bS h
 obtain⟨g14,h⟩:=gG h
 refine oq 130 (.tup []) rfl (bG rfl rfl (bX rfl rfl rfl (iC (iH rfl (eO (path:=[]) rfl rfl aE rfl)) (bg (bT rfl) (bg (bT rfl) (bg (bT rfl) (bg (nk (dD (fS rfl) gK)) cX))))) (Nv hr13) (.inr rfl) (gI rfl rfl rfl rfl dF) rfl rfl rfl)) ?_
 try rw[eA (f:=I) (xs:=u12.2.2) (ys:=r13) g14]
 refine aq 1 ?_
 obtain⟨g15,h⟩:=gG h
 obtain rfl:=sI h
 exact Ab ⟨_,fin (vs:=[]) rfl dU rfl (jq rfl (ko (f:=I) (xs:=r13) (by simpa using g15) rfl) (cu (cu (cu (cu eN))))),qi eH⟩
theorem V0 {G:b7}:bZ G 193 Dj:=gT 5 1 (aO V4 bv) cf Tryz.func193 (fun a r h=>ZD a.1 a.2.1 a.2.2.1 a.2.2.2.1 a.2.2.2.2 r h)
def yd:((List Int)×Int×Int×Int×State)→List V:=cA (o9 1 I) (cA I (cA I (cA I (oA (fun x:State=>(.fn 118 [.iptr (bH x) 0]:V))))))
def ye (r:(List Int)):V×List V:=(.tup [],[.usl 1 (r.map I)])
noncomputable def yf (aA:((List Int)×Int×Int×Int×State)→Option (List Int)):Ent:=bi [true,false,false,false,false] yd ye aA
theorem JJ (aA:((List Int)×Int×Int×Int×State)→Option (List Int)){x}{r}(h:aA x=some r):(yf aA).F (yd x)=some (ye r):=aJ (aN (fu bc) (aN bc (aN bc (aN bc (aK (iE cd)))))) h
noncomputable def Dn :=yf (aL fU)
theorem V5 {ao:List Int}{aW:Int}{aY:Int}{bh:Int}{aF:State}{r}(h:JI ao aW aY bh aF=some r):Dn.F (yd (ao,aW,aY,bh,aF))=some (ye r):=JJ (aL fU) h
noncomputable def pc :=aH Tryz.f181
noncomputable abbrev QO :=cL (cL (cL (cR (cR (cL (cR (cL pc)))))))
noncomputable abbrev QP :=cL (cL (cL (cR (cR (cL (cR (cL (cR pc))))))))
noncomputable abbrev acr :=cL (cL (cR (cL (cR (cR (cR (cL (cR (cL pc)))))))))
noncomputable abbrev QQ :=cL (cL (cL (cR (cR (cR (cR (cR (cR (cR pc)))))))))
noncomputable abbrev zF :=cR (cR (cR (cR (cR (cR (cR (cR (cR (cR pc)))))))))
noncomputable abbrev acs :=cL (cL (cR (cL (cR (cR (cR (cL (cR (cL (cR pc))))))))))
noncomputable abbrev JK :=cR zF
noncomputable def iq (aA:((List Int)×Int×Int×Int×State)→Option (List Int)):Env:=ce [(118,zM),(181,(yf aA)),(193,Dj)]
def gM (aA:((List Int)×Int×Int×Int×State)→Option (List Int))(x:(List Int)×Int×Int×Int×State)(r:(List Int)):St→Prop:=QF (iq aA) Tryz.f181 [true,false,false,false,false] (yd x) (ye r)
theorem P2 (aA:((List Int)×Int×Int×Int×State)→Option (List Int))(ao:List Int)(aW:Int)(aY:Int)(bh:Int)(aF:State):cj (iq aA) 1 (gM aA (ao,aW,aY,bh,aF)) QO 0 (pV aA ao aW aY bh aF) (fun u=>(sT 220 [(0,.hs 1 0 [] 1 0 (u.2.2.map I).length),(1,I u.1),(10,I u.2.1)] [⟨0,1,u.2.2.map I⟩] 2)) fun x6=>(sT 220 [(0,.hs 1 0 [] 1 0 (ao.map I).length),(1,I aW),(4,.fn 118 [.iptr (ai aF) 0]),(10,I x6.1),(11,I x6.2)] [⟨0,1,ao.map I⟩] 2):=ef (A8 aA ao aW aY bh aF) fun {Q K} hK self ih x6 y h hr hn=>by
 unfold jw at h
 refine cq 7 [33] [B (decide (x6.1<x6.2))] 50 ?_
 refine sq h ?_ ?_<;>intro h
 ·refine aq 1 ?_
  refine cq 12 [12] [I (IntKind.i64.wrap (ek .u64 (IntKind.u64.wrap (ac (x6.1+x6.2))) 1))] 162 ?_
  refine eb [0,0,0,6,14,0,0,96,224,511,1023] rfl (by decide +kernel) ?_
  refine dk 3 [42,41,40] [I (IntKind.i64.wrap (ek .u64 (IntKind.u64.wrap (ac (x6.1+x6.2))) 1)),.hs 1 0 [] 1 0 (ao.map I).length,.fn 118 [.iptr (ai aF) 0]] ?_
  obtain⟨e7,he7,h⟩:=bS h
  refine dq [1] [] (.hp 1 0 [] 1 (0+Int.toNat (IntKind.i64.wrap (ek .u64 (IntKind.u64.wrap (ac (x6.1+x6.2))) 1))) 0) rfl (al rfl rfl rfl (cp (f:=I) (xs:=ao) rfl rfl rfl he7)) ?_
  refine dq [1] [] (I e7) rfl (aX rfl (gk (path:=[]) rfl rfl rfl aE (bU (f:=I) (xs:=ao) he7) rfl rfl rfl)) ?_
  refine dk 2 [46,45] [I aW,.hs 1 0 [] 1 0 (ao.map I).length] ?_
  obtain⟨e8,he8,h⟩:=bS h
  refine dq [1] [] (.hp 1 0 [] 1 (0+Int.toNat aW) 0) rfl (al rfl rfl rfl (cp (f:=I) (xs:=ao) rfl rfl rfl he8)) ?_
  refine dq [1] [] (I e8) rfl (aX rfl (gk (path:=[]) rfl rfl rfl aE (bU (f:=I) (xs:=ao) he8) rfl rfl rfl)) ?_
  obtain⟨r9,hr9,h⟩:=bS h
  refine dq [] [] (I r9) rfl (cP (tk hr9)) ?_ (d3 rfl rfl rfl rfl (bg (bT rfl) (bg (bT rfl) (bg (bT rfl) cX))) (tk hr9) (.inr rfl) rfl)
  refine dk 1 [50] [B (decide (r9<0))] ?_
  refine de 338 rfl rfl ?_
  obtain⟨u10,hu10,h⟩:=lJ h
  have j10:Run (iq aA) 1 Q (.blk 1::.lp QO::.blk 0::K) (sT 220 [(0,.hs 1 0 [] 1 0 (ao.map I).length),(1,I aW),(4,.fn 118 [.iptr (ai aF) 0]),(10,I u10.1),(11,I u10.2)] [⟨0,1,ao.map I⟩] 2):=by
   refine aq 1 ?_
   refine cY ?_
   exact rf [0,1,4,10,11] [1] (ih _ _ h hr hn :)
  replace h:=hu10
  clear hu10
  refine tG h rfl rfl ?_ ?_<;>intro h
  ·refine cq 5 [10] [I (ac ((IntKind.i64.wrap (ek .u64 (IntKind.u64.wrap (ac (x6.1+x6.2))) 1))+1))] 386 ?_
   subst h
   exact rf [0,1,4,10,11] [1] (j10 :)
  ·refine cq 4 [11] [I (IntKind.i64.wrap (ek .u64 (IntKind.u64.wrap (ac (x6.1+x6.2))) 1))] 370 ?_
   subst h
   exact rf [0,1,4,10,11] [1] (j10 :)
 ·refine aq 1 ?_
  exact rf [0,1,10] [1] (hn _ (an h) :) (hk:=hK)
theorem P3 (aA:((List Int)×Int×Int×Int×State)→Option (List Int))(ao:List Int)(aW:Int)(aY:Int)(bh:Int)(aF:State)(u11:Int×Int×(List Int)):cj (iq aA) 1 (gM aA (ao,aW,aY,bh,aF)) acr 2 (jX aA ao aW aY bh aF u11) (fun u=>(sT 220 [] [⟨0,1,u.map I⟩] 2)) fun x12=>(sT 220 [(0,.hs 1 0 [] 1 0 (x12.2.map I).length),(10,I u11.2.1),(13,I x12.1)] [⟨0,1,x12.2.map I⟩] 2):=ef (A9 aA ao aW aY bh aF u11) fun {Q K} hK self ih x12 y h hr hn=>by
 unfold jx at h
 refine cq 8 [58] [B (decide (x12.1<(ac (u11.2.1 - 1))))] 66 ?_
 refine sq h ?_ ?_<;>intro h
 ·refine aq 1 ?_
  refine aq 2 ?_
  refine eb [0,0,0,0,8,0,0,64,224,480,0,0,3072,7168,16355,32739,65535,131071] rfl (by decide +kernel) ?_
  refine dk 8 [68,67,66,65,64,63,62,61] [I (ac (x12.1+1)),I x12.1,.hs 1 0 [] 1 0 (x12.2.map I).length,I (ac (x12.1+1)),I x12.1,.hs 1 0 [] 1 0 (x12.2.map I).length,I x12.1,.hs 1 0 [] 1 0 (x12.2.map I).length] ?_
  obtain⟨e13,he13,h⟩:=bS h
  refine dq [1] [] (.hp 1 0 [] 1 (0+Int.toNat (ac (x12.1+1))) 0) rfl (al rfl rfl rfl (cp (f:=I) (xs:=x12.2) rfl rfl rfl he13)) ?_
  refine dq [1] [] (I e13) rfl (aX rfl (gk (path:=[]) rfl rfl rfl aE (bU (f:=I) (xs:=x12.2) he13) rfl rfl rfl)) ?_
  refine dk 2 [72,71] [I x12.1,.hs 1 0 [] 1 0 (x12.2.map I).length] ?_
  obtain⟨e14,he14,h⟩:=bS h
  refine dq [1] [] (.hp 1 0 [] 1 (0+Int.toNat x12.1) 0) rfl (al rfl rfl rfl (cp (f:=I) (xs:=x12.2) rfl rfl rfl he14)) ?_
  refine dq [1] [] (I e14) rfl (aX rfl (gk (path:=[]) rfl rfl rfl aE (bU (f:=I) (xs:=x12.2) he14) rfl rfl rfl)) ?_
  obtain⟨e15,he15,h⟩:=bS h
  refine dq [1] [] (.hp 1 0 [] 1 (0+Int.toNat x12.1) 0) rfl (al rfl rfl rfl (cp (f:=I) (xs:=x12.2) rfl rfl rfl he15)) ?_
  refine dz [1] [1] rfl (et rfl rfl (dG (path:=[]) (pl:=true) (e':=I e13) (es2':=(bM x12.2 x12.1 e13).map I) rfl (ba rfl) rfl rfl rfl aE (bU (f:=I) (xs:=x12.2) he15) rfl rfl rfl (gD (f:=I) (xs:=x12.2) (y:=e13)) cM 0 rfl)) ?_
  try rw[←fK (f:=I) (xs:=x12.2) (i:=x12.1) (z:=e13)]
  obtain⟨e18,he18,h⟩:=bS h
  refine dq [1] [] (.hp 1 0 [] 1 (0+Int.toNat (ac (x12.1+1))) 0) rfl (al rfl rfl rfl (cp (f:=I) (xs:=(bM x12.2 x12.1 e13)) rfl rfl rfl he18)) ?_
  obtain⟨rw19,hrw19,h⟩:=lJ h
  refine dz [1] [1] rfl (et rfl rfl (dG (path:=[]) (pl:=true) (e':=I e14) (es2':=(rw19).map I) rfl (ba rfl) rfl rfl rfl aE (bU (f:=I) (xs:=(bM x12.2 x12.1 e13)) he18) rfl rfl rfl (fM (f:=I) (xs:=(bM x12.2 x12.1 e13)) (y:=e14) hrw19) cM 0 rfl)) ?_
  try rw[←eE hrw19 (f:=I) (xs:=(bM x12.2 x12.1 e13))]
  refine de 354 rfl rfl ?_
  refine cq 6 [13] [I (ac (x12.1+1))] 402 ?_
  refine cY ?_
  exact rf [0,10,13] [1] (ih _ _ h hr hn :)
 ·refine aq 1 ?_
  exact rf [] [1] (hn _ (an h) :) (hk:=hK)
theorem P4 (aA:((List Int)×Int×Int×Int×State)→Option (List Int))(ao:List Int)(aW:Int)(aY:Int)(bh:Int)(aF:State):cj (iq aA) 1 (gM aA (ao,aW,aY,bh,aF)) QP 4 (pW aA ao aW aY bh aF) (fun u=>(sT 220 [(0,.hs 1 0 [] 1 0 (u.2.2.map I).length),(2,I u.1),(14,I u.2.1)] [⟨0,1,u.2.2.map I⟩] 2)) fun x25=>(sT 220 [(0,.hs 1 0 [] 1 0 (ao.map I).length),(2,I aY),(4,.fn 118 [.iptr (ai aF) 0]),(14,I x25.1),(15,I x25.2)] [⟨0,1,ao.map I⟩] 2):=ef (Ba aA ao aW aY bh aF) fun {Q K} hK self ih x25 y h hr hn=>by
 unfold jy at h
 refine cq 7 [85] [B (decide (x25.1<x25.2))] 50 ?_
 refine sq h ?_ ?_<;>intro h
 ·refine aq 1 ?_
  refine cq 12 [16] [I (IntKind.i64.wrap (ek .u64 (IntKind.u64.wrap (ac (x25.1+x25.2))) 1))] 162 ?_
  refine eb [0,0,0,6,14,0,0,96,224,511,1023,2047] rfl (by decide +kernel) ?_
  refine dk 3 [94,93,92] [I aY,.hs 1 0 [] 1 0 (ao.map I).length,.fn 118 [.iptr (ai aF) 0]] ?_
  obtain⟨e26,he26,h⟩:=bS h
  refine dq [1] [] (.hp 1 0 [] 1 (0+Int.toNat aY) 0) rfl (al rfl rfl rfl (cp (f:=I) (xs:=ao) rfl rfl rfl he26)) ?_
  refine dq [1] [] (I e26) rfl (aX rfl (gk (path:=[]) rfl rfl rfl aE (bU (f:=I) (xs:=ao) he26) rfl rfl rfl)) ?_
  refine dk 2 [98,97] [I (IntKind.i64.wrap (ek .u64 (IntKind.u64.wrap (ac (x25.1+x25.2))) 1)),.hs 1 0 [] 1 0 (ao.map I).length] ?_
  obtain⟨e27,he27,h⟩:=bS h
  refine dq [1] [] (.hp 1 0 [] 1 (0+Int.toNat (IntKind.i64.wrap (ek .u64 (IntKind.u64.wrap (ac (x25.1+x25.2))) 1))) 0) rfl (al rfl rfl rfl (cp (f:=I) (xs:=ao) rfl rfl rfl he27)) ?_
  refine dq [1] [] (I e27) rfl (aX rfl (gk (path:=[]) rfl rfl rfl aE (bU (f:=I) (xs:=ao) he27) rfl rfl rfl)) ?_
  obtain⟨r28,hr28,h⟩:=bS h
  refine dq [] [] (I r28) rfl (cP (tk hr28)) ?_ (d3 rfl rfl rfl rfl (bg (bT rfl) (bg (bT rfl) (bg (bT rfl) cX))) (tk hr28) (.inr rfl) rfl)
  refine dk 2 [103,102] [B (!(decide (r28<0))),B (decide (r28<0))] ?_
  refine de 354 rfl rfl ?_
  obtain⟨u29,hu29,h⟩:=lJ h
  have j29:Run (iq aA) 1 Q (.blk 5::.lp QP::.blk 4::K) (sT 220 [(0,.hs 1 0 [] 1 0 (ao.map I).length),(2,I aY),(4,.fn 118 [.iptr (ai aF) 0]),(14,I u29.1),(15,I u29.2)] [⟨0,1,ao.map I⟩] 2):=by
   refine aq 1 ?_
   refine cY ?_
   exact rf [0,2,4,14,15] [1] (ih _ _ h hr hn :)
  replace h:=hu29
  clear hu29
  refine tG h rfl rfl ?_ ?_<;>intro h
  ·refine cq 5 [14] [I (ac ((IntKind.i64.wrap (ek .u64 (IntKind.u64.wrap (ac (x25.1+x25.2))) 1))+1))] 402 ?_
   subst h
   exact rf [0,2,4,14,15] [1] (j29 :)
  ·refine cq 4 [15] [I (IntKind.i64.wrap (ek .u64 (IntKind.u64.wrap (ac (x25.1+x25.2))) 1))] 386 ?_
   subst h
   exact rf [0,2,4,14,15] [1] (j29 :)
 ·refine aq 1 ?_
  exact rf [0,2,14] [1] (hn _ (an h) :) (hk:=hK)
theorem P5 (aA:((List Int)×Int×Int×Int×State)→Option (List Int))(ao:List Int)(aW:Int)(aY:Int)(bh:Int)(aF:State)(u30:Int×Int×(List Int)):cj (iq aA) 1 (gM aA (ao,aW,aY,bh,aF)) acs 6 (jY aA ao aW aY bh aF u30) (fun u=>(sT 220 [] [⟨0,1,u.map I⟩] 2)) fun x31=>(sT 220 [(0,.hs 1 0 [] 1 0 (x31.2.map I).length),(14,I u30.2.1),(17,I x31.1)] [⟨0,1,x31.2.map I⟩] 2):=ef (Bb aA ao aW aY bh aF u30) fun {Q K} hK self ih x31 y h hr hn=>by
 unfold jz at h
 refine cq 7 [110] [B (decide (x31.1>u30.2.1))] 50 ?_
 refine sq h ?_ ?_<;>intro h
 ·refine aq 1 ?_
  refine aq 2 ?_
  refine eb [0,0,0,0,8,0,0,64,224,480,0,0,3072,7168,16355,32739,65535,131071] rfl (by decide +kernel) ?_
  refine dk 8 [120,119,118,117,116,115,114,113] [I (ac (x31.1 - 1)),I x31.1,.hs 1 0 [] 1 0 (x31.2.map I).length,I (ac (x31.1 - 1)),I x31.1,.hs 1 0 [] 1 0 (x31.2.map I).length,I x31.1,.hs 1 0 [] 1 0 (x31.2.map I).length] ?_
  obtain⟨e32,he32,h⟩:=bS h
  refine dq [1] [] (.hp 1 0 [] 1 (0+Int.toNat (ac (x31.1 - 1))) 0) rfl (al rfl rfl rfl (cp (f:=I) (xs:=x31.2) rfl rfl rfl he32)) ?_
  refine dq [1] [] (I e32) rfl (aX rfl (gk (path:=[]) rfl rfl rfl aE (bU (f:=I) (xs:=x31.2) he32) rfl rfl rfl)) ?_
  refine dk 2 [124,123] [I x31.1,.hs 1 0 [] 1 0 (x31.2.map I).length] ?_
  obtain⟨e33,he33,h⟩:=bS h
  refine dq [1] [] (.hp 1 0 [] 1 (0+Int.toNat x31.1) 0) rfl (al rfl rfl rfl (cp (f:=I) (xs:=x31.2) rfl rfl rfl he33)) ?_
  refine dq [1] [] (I e33) rfl (aX rfl (gk (path:=[]) rfl rfl rfl aE (bU (f:=I) (xs:=x31.2) he33) rfl rfl rfl)) ?_
  obtain⟨e34,he34,h⟩:=bS h
  refine dq [1] [] (.hp 1 0 [] 1 (0+Int.toNat x31.1) 0) rfl (al rfl rfl rfl (cp (f:=I) (xs:=x31.2) rfl rfl rfl he34)) ?_
  refine dz [1] [1] rfl (et rfl rfl (dG (path:=[]) (pl:=true) (e':=I e32) (es2':=(bM x31.2 x31.1 e32).map I) rfl (ba rfl) rfl rfl rfl aE (bU (f:=I) (xs:=x31.2) he34) rfl rfl rfl (gD (f:=I) (xs:=x31.2) (y:=e32)) cM 0 rfl)) ?_
  try rw[←fK (f:=I) (xs:=x31.2) (i:=x31.1) (z:=e32)]
  obtain⟨e37,he37,h⟩:=bS h
  refine dq [1] [] (.hp 1 0 [] 1 (0+Int.toNat (ac (x31.1 - 1))) 0) rfl (al rfl rfl rfl (cp (f:=I) (xs:=(bM x31.2 x31.1 e32)) rfl rfl rfl he37)) ?_
  obtain⟨rw38,hrw38,h⟩:=lJ h
  refine dz [1] [1] rfl (et rfl rfl (dG (path:=[]) (pl:=true) (e':=I e33) (es2':=(rw38).map I) rfl (ba rfl) rfl rfl rfl aE (bU (f:=I) (xs:=(bM x31.2 x31.1 e32)) he37) rfl rfl rfl (fM (f:=I) (xs:=(bM x31.2 x31.1 e32)) (y:=e33) hrw38) cM 0 rfl)) ?_
  try rw[←eE hrw38 (f:=I) (xs:=(bM x31.2 x31.1 e32))]
  refine de 338 rfl rfl ?_
  refine cq 6 [17] [I (ac (x31.1 - 1))] 386 ?_
  refine cY ?_
  exact rf [0,14,17] [1] (ih _ _ h hr hn :)
 ·refine aq 1 ?_
  exact rf [] [1] (hn _ (an h) :) (hk:=hK)
theorem P6 (aA:((List Int)×Int×Int×Int×State)→Option (List Int))(ao:List Int)(aW:Int)(aY:Int)(bh:Int)(aF:State):cj (iq aA) 1 (gM aA (ao,aW,aY,bh,aF)) QQ 8 (rR aA ao aW aY bh aF) (fun u=>(sT 220 [(0,.hs 1 0 [] 1 0 (ao.map I).length),(1,I aW),(2,I aY),(3,I u.1),(4,.fn 118 [.iptr (ai aF) 0]),(18,I u.2.1),(19,I u.2.2.1),(20,I u.2.2.2)] [⟨0,1,ao.map I⟩] 2)) fun x45=>(sT 220 [(0,.hs 1 0 [] 1 0 (ao.map I).length),(1,I aW),(2,I aY),(3,I bh),(4,.fn 118 [.iptr (ai aF) 0]),(18,I (IntKind.i64.wrap (ek .u64 (IntKind.u64.wrap (ac (aW+bh))) 1))),(19,I (ac ((IntKind.i64.wrap (ek .u64 (IntKind.u64.wrap (ac (aW+bh))) 1))+aY))),(20,I x45.1),(21,I x45.2),(22,I (ac ((ac ((IntKind.i64.wrap (ek .u64 (IntKind.u64.wrap (ac (aW+bh))) 1))+aY)) - 1)))] [⟨0,1,ao.map I⟩] 2):=ef (Bc aA ao aW aY bh aF) fun {Q K} hK self ih x45 y h hr hn=>by
 unfold kz at h
 refine cq 7 [151] [B (decide (x45.1<x45.2))] 50 ?_
 refine sq h ?_ ?_<;>intro h
 ·refine aq 1 ?_
  refine cq 12 [23] [I (IntKind.i64.wrap (ek .u64 (IntKind.u64.wrap (ac (x45.1+x45.2))) 1))] 162 ?_
  refine eb [0,0,0,0,12,30,62,0,0,384,896,2047,4095,8191] rfl (by decide +kernel) ?_
  refine dk 5 [162,161,160,159,158] [I (ac ((ac ((ac ((IntKind.i64.wrap (ek .u64 (IntKind.u64.wrap (ac (aW+bh))) 1))+aY)) - 1)) - (IntKind.i64.wrap (ek .u64 (IntKind.u64.wrap (ac (x45.1+x45.2))) 1)))),I (IntKind.i64.wrap (ek .u64 (IntKind.u64.wrap (ac (x45.1+x45.2))) 1)),I (ac ((ac ((IntKind.i64.wrap (ek .u64 (IntKind.u64.wrap (ac (aW+bh))) 1))+aY)) - 1)),.hs 1 0 [] 1 0 (ao.map I).length,.fn 118 [.iptr (ai aF) 0]] ?_
  obtain⟨e46,he46,h⟩:=bS h
  refine dq [1] [] (.hp 1 0 [] 1 (0+Int.toNat (ac ((ac ((ac ((IntKind.i64.wrap (ek .u64 (IntKind.u64.wrap (ac (aW+bh))) 1))+aY)) - 1)) - (IntKind.i64.wrap (ek .u64 (IntKind.u64.wrap (ac (x45.1+x45.2))) 1))))) 0) rfl (al rfl rfl rfl (cp (f:=I) (xs:=ao) rfl rfl rfl he46)) ?_
  refine dq [1] [] (I e46) rfl (aX rfl (gk (path:=[]) rfl rfl rfl aE (bU (f:=I) (xs:=ao) he46) rfl rfl rfl)) ?_
  refine dk 2 [166,165] [I (IntKind.i64.wrap (ek .u64 (IntKind.u64.wrap (ac (x45.1+x45.2))) 1)),.hs 1 0 [] 1 0 (ao.map I).length] ?_
  obtain⟨e47,he47,h⟩:=bS h
  refine dq [1] [] (.hp 1 0 [] 1 (0+Int.toNat (IntKind.i64.wrap (ek .u64 (IntKind.u64.wrap (ac (x45.1+x45.2))) 1))) 0) rfl (al rfl rfl rfl (cp (f:=I) (xs:=ao) rfl rfl rfl he47)) ?_
  refine dq [1] [] (I e47) rfl (aX rfl (gk (path:=[]) rfl rfl rfl aE (bU (f:=I) (xs:=ao) he47) rfl rfl rfl)) ?_
  obtain⟨r48,hr48,h⟩:=bS h
  refine dq [] [] (I r48) rfl (cP (tk hr48)) ?_ (d3 rfl rfl rfl rfl (bg (bT rfl) (bg (bT rfl) (bg (bT rfl) cX))) (tk hr48) (.inr rfl) rfl)
  refine dk 2 [171,170] [B (!(decide (r48<0))),B (decide (r48<0))] ?_
  refine de 386 rfl rfl ?_
  obtain⟨u49,hu49,h⟩:=lJ h
  have j49:Run (iq aA) 1 Q (.blk 9::.lp QQ::.blk 8::K) (sT 220 [(0,.hs 1 0 [] 1 0 (ao.map I).length),(1,I aW),(2,I aY),(3,I bh),(4,.fn 118 [.iptr (ai aF) 0]),(18,I (IntKind.i64.wrap (ek .u64 (IntKind.u64.wrap (ac (aW+bh))) 1))),(19,I (ac ((IntKind.i64.wrap (ek .u64 (IntKind.u64.wrap (ac (aW+bh))) 1))+aY))),(20,I u49.1),(21,I u49.2),(22,I (ac ((ac ((IntKind.i64.wrap (ek .u64 (IntKind.u64.wrap (ac (aW+bh))) 1))+aY)) - 1)))] [⟨0,1,ao.map I⟩] 2):=by
   refine aq 1 ?_
   refine cY ?_
   exact rf [0,1,2,3,4,18,19,20,21,22] [1] (ih _ _ h hr hn :)
  replace h:=hu49
  clear hu49
  refine tG h rfl rfl ?_ ?_<;>intro h
  ·refine cq 5 [20] [I (ac ((IntKind.i64.wrap (ek .u64 (IntKind.u64.wrap (ac (x45.1+x45.2))) 1))+1))] 434 ?_
   subst h
   exact rf [0,1,2,3,4,18,19,20,21,22] [1] (j49 :)
  ·refine cq 4 [21] [I (IntKind.i64.wrap (ek .u64 (IntKind.u64.wrap (ac (x45.1+x45.2))) 1))] 418 ?_
   subst h
   exact rf [0,1,2,3,4,18,19,20,21,22] [1] (j49 :)
 ·refine aq 1 ?_
  exact rf [0,1,2,3,4,18,19,20] [1] (hn _ (an h) :) (hk:=hK)
theorem ZH (aA:((List Int)×Int×Int×Int×State)→Option (List Int))(ao:List Int)(aW:Int)(aY:Int)(bh:Int)(aF:State)(r:(List Int))(h:uX aA ao aW aY bh aF=some r):br (iq aA) Tryz.f181 [true,false,false,false,false] 1 (yd (ao,aW,aY,bh,aF)) (ye r):=by
 show Run _ _ (gM aA (ao,aW,aY,bh,aF) r) [.code pc] _
 refine rI 220 [(0,.hs 1 0 [] 1 0 (ao.map I).length),(1,I aW),(2,I aY),(3,I bh),(4,.fn 118 [.iptr (ai aF) 0])] [(1,some ⟨0,1,ao.map I⟩)] 2 ?_
 unfold uX at h
 refine cq 8 [28] [B ((ac (aY - aW))==1)] 66 ?_
 refine sq h ?_ ?_<;>intro h
 ·refine cq 12 [10,11] [I aY,I bh] 130 ?_
  obtain⟨y11,hy11,hy111,hy112⟩:=bJ h
  refine bO rfl ?_
  refine rf [0,1,4,10,11] [1] (P2 aA ao aW aY bh aF rfl (aY,bh) _ hy11 (fun r' e st hq=>by rw[hy111 r' e] at hq;exact hq) fun u11 hu=>?_)
  replace h:=hy112 u11 hu
  refine cq 7 [13] [I u11.1] 34 ?_
  obtain⟨y23,hy23,hy231,hy232⟩:=bJ h
  refine bO rfl ?_
  refine rf [0,10,13] [1] (P3 aA ao aW aY bh aF u11 rfl (u11.1,u11.2.2) _ hy23 (fun r' e st hq=>by rw[hy231 r' e] at hq;exact hq) fun u23 hu=>?_)
  replace h:=hy232 u23 hu
  obtain⟨g24,h⟩:=gG h
  obtain rfl:=sI h
  exact b8 rfl ⟨_,fin (vs:=[]) rfl dU rfl (jq rfl (ko (f:=I) (xs:=u23) (by simpa using g24) rfl) (cu (cu (cu (cu eN))))),qi eH⟩
 ·refine aq 1 ?_
  refine cq 8 [80] [B ((ac (bh - aY))==1)] 130 ?_
  refine sq h ?_ ?_<;>intro h
  ·refine cq 12 [14,15] [I aW,I aY] 194 ?_
   obtain⟨y30,hy30,hy301,hy302⟩:=bJ h
   refine bO rfl ?_
   refine rf [0,2,4,14,15] [1] (P4 aA ao aW aY bh aF rfl (aW,aY) _ hy30 (fun r' e st hq=>by rw[hy301 r' e] at hq;exact hq) fun u30 hu=>?_)
   replace h:=hy302 u30 hu
   refine cq 7 [17] [I u30.1] 34 ?_
   obtain⟨y42,hy42,hy421,hy422⟩:=bJ h
   refine bO rfl ?_
   refine rf [0,14,17] [1] (P5 aA ao aW aY bh aF u30 rfl (u30.1,u30.2.2) _ hy42 (fun r' e st hq=>by rw[hy421 r' e] at hq;exact hq) fun u42 hu=>?_)
   replace h:=hy422 u42 hu
   obtain⟨g43,h⟩:=gG h
   obtain rfl:=sI h
   exact b8 rfl ⟨_,fin (vs:=[]) rfl dU rfl (jq rfl (ko (f:=I) (xs:=u42) (by simpa using g43) rfl) (cu (cu (cu (cu eN))))),qi eH⟩
  ·refine aq 1 ?_
   refine cq 29 [18,19,140] [I (IntKind.i64.wrap (ek .u64 (IntKind.u64.wrap (ac (aW+bh))) 1)),I (ac ((IntKind.i64.wrap (ek .u64 (IntKind.u64.wrap (ac (aW+bh))) 1))+aY)),B (decide (aY>(IntKind.i64.wrap (ek .u64 (IntKind.u64.wrap (ac (aW+bh))) 1))))] 386 ?_
   obtain⟨u44,hu44,h⟩:=lJ h
   have j44:Run (iq aA) 1 (gM aA (ao,aW,aY,bh,aF) r) (.code (cR (cR (cR (cR (cR (cR pc))))))::[]) (sT 220 [(0,.hs 1 0 [] 1 0 (ao.map I).length),(1,I aW),(2,I aY),(3,I bh),(4,.fn 118 [.iptr (ai aF) 0]),(18,I (IntKind.i64.wrap (ek .u64 (IntKind.u64.wrap (ac (aW+bh))) 1))),(19,I (ac ((IntKind.i64.wrap (ek .u64 (IntKind.u64.wrap (ac (aW+bh))) 1))+aY))),(20,I u44.1),(21,I u44.2)] [⟨0,1,ao.map I⟩] 2):=by
    refine cq 8 [22] [I (ac ((ac ((IntKind.i64.wrap (ek .u64 (IntKind.u64.wrap (ac (aW+bh))) 1))+aY)) - 1))] 50 ?_
    obtain⟨y50,hy50,hy501,hy502⟩:=bJ h
    refine bO rfl ?_
    refine rf [0,1,2,3,4,18,19,20,21,22] [1] (P6 aA ao aW aY bh aF rfl (u44.1,u44.2) _ hy50 (fun r' e st hq=>by rw[hy501 r' e] at hq;exact hq) fun u50 hu=>?_)
    replace h:=hy502 u50 hu
    refine cq 14 [24,181] [I (ac (u50.2.2.1 - u50.2.2.2)),B (decide (u50.2.2.2<aY))] 130 ?_
    obtain⟨u51,hu51,h⟩:=lJ h
    have j51:Run (iq aA) 1 (gM aA (ao,aW,aY,bh,aF) r) (.code (cR (cL (cR (cR (cR (cR (cR (cR (cR (cR (cR pc)))))))))))::.code zF::[]) (sT 220 [(0,.hs 1 0 [] 1 0 (ao.map I).length),(1,I aW),(2,I aY),(3,I u50.1),(4,.fn 118 [.iptr (ai aF) 0]),(18,I u50.2.1),(20,I u50.2.2.2),(24,I (ac (u50.2.2.1 - u50.2.2.2))),(185,B u51)] [⟨0,1,ao.map I⟩] 2):=by
     obtain⟨y52,hy52,hy521,hy522⟩:=bJ h
     have j52:∀u52,y52=.inr u52→Run (iq aA) 1 (gM aA (ao,aW,aY,bh,aF) r) (.code zF::[]) (sT 220 [(0,.hs 1 0 [] 1 0 (u52.map I).length),(1,I aW),(3,I u50.1),(4,.fn 118 [.iptr (ai aF) 0]),(18,I u50.2.1),(20,I u50.2.2.2),(24,I (ac (u50.2.2.1 - u50.2.2.2)))] [⟨0,1,u52.map I⟩] 2):=by
      intro u52 hu
      replace h:=hy522 u52 hu
      refine cq 7 [195] [B (decide (aW<u50.2.2.2))] 66 ?_
      obtain⟨u53,hu53,h⟩:=lJ h
      have j53:Run (iq aA) 1 (gM aA (ao,aW,aY,bh,aF) r) (.code (cR (cL zF))::.code JK::[]) (sT 220 [(0,.hs 1 0 [] 1 0 (u52.map I).length),(1,I aW),(3,I u50.1),(4,.fn 118 [.iptr (ai aF) 0]),(18,I u50.2.1),(20,I u50.2.2.2),(24,I (ac (u50.2.2.1 - u50.2.2.2))),(199,B u53)] [⟨0,1,u52.map I⟩] 2):=by
       obtain⟨y54,hy54,hy541,hy542⟩:=bJ h
       have j54:∀u54,y54=.inr u54→Run (iq aA) 1 (gM aA (ao,aW,aY,bh,aF) r) (.code JK::[]) (sT 220 [(0,.hs 1 0 [] 1 0 (u54.map I).length),(3,I u50.1),(4,.fn 118 [.iptr (ai aF) 0]),(18,I u50.2.1),(24,I (ac (u50.2.2.1 - u50.2.2.2)))] [⟨0,1,u54.map I⟩] 2):=by
        intro u54 hu
        replace h:=hy542 u54 hu
        refine cq 6 [209] [B (decide (u50.2.1<(ac (u50.2.2.1 - u50.2.2.2))))] 66 ?_
        obtain⟨u55,hu55,h⟩:=lJ h
        have j55:Run (iq aA) 1 (gM aA (ao,aW,aY,bh,aF) r) (.code (cR JK)::[]) (sT 220 [(0,.hs 1 0 [] 1 0 (u54.map I).length),(3,I u50.1),(4,.fn 118 [.iptr (ai aF) 0]),(18,I u50.2.1),(24,I (ac (u50.2.2.1 - u50.2.2.2))),(213,B u55)] [⟨0,1,u54.map I⟩] 2):=by
         obtain⟨y56,hy56,hy561,hy562⟩:=bJ h
         have j56:∀u56,y56=.inr u56→Run (iq aA) 1 (gM aA (ao,aW,aY,bh,aF) r) ([]) (sT 220 [] [⟨0,1,u56.map I⟩] 2):=by
          intro u56 hu
          replace h:=hy562 u56 hu
          obtain⟨g57,h⟩:=gG h
          obtain rfl:=sI h
          exact Ab ⟨_,fin (vs:=[]) rfl dU rfl (jq rfl (ko (f:=I) (xs:=u56) (by simpa using g57) rfl) (cu (cu (cu (cu eN))))),qi eH⟩
         have r56:∀r',y56=.inl r'→∀st,gM aA (ao,aW,aY,bh,aF) r' st→(gM aA (ao,aW,aY,bh,aF) r) st:=fun r' e st hq=>by rw[hy561 r' e] at hq;exact hq
         replace h:=hy56
         refine sq h ?_ ?_<;>intro h
         ·refine cq 6 [214,215,216,217,218] [.hs 1 0 [] 1 0 (u54.map I).length,I u50.2.1,I (ac (u50.2.2.1 - u50.2.2.2)),I u50.1,.fn 118 [.iptr (ai aF) 0]] 82 ?_
          obtain⟨r58,hr58,h⟩:=bS h
          obtain⟨g59,h⟩:=gG h
          refine oq 98 (.tup []) rfl (bG rfl rfl (bX rfl rfl rfl (iC (iH rfl (eO (path:=[]) rfl rfl aE rfl)) (bg (bT rfl) (bg (bT rfl) (bg (bT rfl) (bg (nk (dD (fS rfl) gK)) cX))))) (JJ aA hr58) (.inr rfl) (gI rfl rfl rfl rfl dF) rfl rfl rfl)) ?_
          try rw[eA (f:=I) (xs:=u54) (ys:=r58) g59]
          refine aq 1 ?_
          exact rf [] [1] (j56 _ (an h) :)
         ·refine aq 1 ?_
          exact rf [] [1] (j56 _ (an h) :)
        replace h:=hu55
        clear hu55
        refine sp 209 h rfl ?_ ?_<;>intro h
        ·refine cq 5 [213] [B (decide ((ac (u50.2.2.1 - u50.2.2.2))<u50.1))] 130 ?_
         subst h
         exact rf [0,3,4,18,24,213] [1] (j55 :)
        ·refine cq 5 [213] [B false] 130 ?_
         subst h
         exact rf [0,3,4,18,24,213] [1] (j55 :)
       have r54:∀r',y54=.inl r'→∀st,gM aA (ao,aW,aY,bh,aF) r' st→(gM aA (ao,aW,aY,bh,aF) r) st:=fun r' e st hq=>by rw[hy541 r' e] at hq;exact hq
       replace h:=hy54
       refine sq h ?_ ?_<;>intro h
       ·refine cq 6 [200,201,202,203,204] [.hs 1 0 [] 1 0 (u52.map I).length,I aW,I u50.2.2.2,I u50.2.1,.fn 118 [.iptr (ai aF) 0]] 82 ?_
        obtain⟨r60,hr60,h⟩:=bS h
        obtain⟨g61,h⟩:=gG h
        refine oq 98 (.tup []) rfl (bG rfl rfl (bX rfl rfl rfl (iC (iH rfl (eO (path:=[]) rfl rfl aE rfl)) (bg (bT rfl) (bg (bT rfl) (bg (bT rfl) (bg (nk (dD (fS rfl) gK)) cX))))) (JJ aA hr60) (.inr rfl) (gI rfl rfl rfl rfl dF) rfl rfl rfl)) ?_
        try rw[eA (f:=I) (xs:=u52) (ys:=r60) g61]
        refine aq 1 ?_
        exact rf [0,3,4,18,24] [1] (j54 _ (an h) :)
       ·refine aq 1 ?_
        exact rf [0,3,4,18,24] [1] (j54 _ (an h) :)
      replace h:=hu53
      clear hu53
      refine sp 195 h rfl ?_ ?_<;>intro h
      ·refine cq 5 [199] [B (decide (u50.2.2.2<u50.2.1))] 130 ?_
       subst h
       exact rf [0,1,3,4,18,20,24,199] [1] (j53 :)
      ·refine cq 5 [199] [B false] 130 ?_
       subst h
       exact rf [0,1,3,4,18,20,24,199] [1] (j53 :)
     have r52:∀r',y52=.inl r'→∀st,gM aA (ao,aW,aY,bh,aF) r' st→(gM aA (ao,aW,aY,bh,aF) r) st:=fun r' e st hq=>by rw[hy521 r' e] at hq;exact hq
     replace h:=hy52
     refine sq h ?_ ?_<;>intro h
     ·refine cq 6 [186,187,188,189,190] [.hs 1 0 [] 1 0 (ao.map I).length,I u50.2.2.2,I aY,I (ac (u50.2.2.1 - u50.2.2.2)),.fn 118 [.iptr (ai aF) 0]] 82 ?_
      obtain⟨r62,hr62,h⟩:=bS h
      obtain⟨g63,h⟩:=gG h
      refine oq 98 (.tup []) rfl (bG rfl rfl (bX rfl rfl rfl (iC (iH rfl (eO (path:=[]) rfl rfl aE rfl)) (bg (bT rfl) (bg (bT rfl) (bg (bT rfl) (bg (nk (dD (fS rfl) gK)) cX))))) (afs hr62) (.inr rfl) (gI rfl rfl rfl rfl dF) rfl rfl rfl)) ?_
      try rw[eA (f:=I) (xs:=ao) (ys:=r62) g63]
      refine aq 1 ?_
      exact rf [0,1,3,4,18,20,24] [1] (j52 _ (an h) :)
     ·refine aq 1 ?_
      exact rf [0,1,3,4,18,20,24] [1] (j52 _ (an h) :)
    replace h:=hu51
    clear hu51
    refine sp 181 h rfl ?_ ?_<;>intro h
    ·refine cq 5 [185] [B (decide (aY<(ac (u50.2.2.1 - u50.2.2.2))))] 194 ?_
     subst h
     exact rf [0,1,2,3,4,18,20,24,185] [1] (j51 :)
    ·refine cq 5 [185] [B false] 194 ?_
     subst h
     exact rf [0,1,2,3,4,18,20,24,185] [1] (j51 :)
   replace h:=hu44
   clear hu44
   refine tG h rfl rfl ?_ ?_<;>intro h
   ·refine cq 11 [20,21] [I (ac ((ac ((IntKind.i64.wrap (ek .u64 (IntKind.u64.wrap (ac (aW+bh))) 1))+aY)) - bh)),I (IntKind.i64.wrap (ek .u64 (IntKind.u64.wrap (ac (aW+bh))) 1))] 482 ?_
    subst h
    exact rf [0,1,2,3,4,18,19,20,21] [1] (j44 :)
   ·refine cq 9 [20,21] [I aW,I aY] 450 ?_
    subst h
    exact rf [0,1,2,3,4,18,19,20,21] [1] (j44 :)
theorem V6 {G:b7}:bZ G 181 Dn:=jM fun aA g_Ffdr=>gT 5 1 (aO NW (aO g_Ffdr (aO V0 bv))) cf Tryz.func181 (fun a r h=>ZH aA a.1 a.2.1 a.2.2.1 a.2.2.2.1 a.2.2.2.2 r h)
def GI:((List Int)×Int×State)→List V:=cA (o9 1 I) (cA I (oA (fun x:State=>(.fn 118 [.iptr (bH x) 0]:V))))
def GJ (r:(List Int)):V×List V:=(.tup [],[.usl 1 (r.map I)])
noncomputable def Dl :=bi [true,false,false] GI GJ fun x=>Dk x.1 x.2.1 x.2.2
theorem aft {ch:List Int}{n_7:Int}{co:State}{r}(h:Dk ch n_7 co=some r):Dl.F (GI (ch,n_7,co))=some (GJ r):=aJ (aN (fu bc) (aN bc (aK (iE cd)))) h
noncomputable def Nt :=aH Tryz.f154
noncomputable abbrev zE :=cL (cL (cR (cR (cR (cR Nt)))))
noncomputable abbrev acp :=cL (cL (cL (cR (cL (cR zE)))))
noncomputable def uT :=ce [(180,Di),(181,Dn)]
def yb (x:(List Int)×Int×State)(r:(List Int)):St→Prop:=QF uT Tryz.f154 [true,false,false] (GI x) (GJ r)
theorem PY (ch:List Int)(n_7:Int)(co:State):cj uT 1 (yb (ch,n_7,co)) (cL (cL (cL (cR (cR Nt))))) 0 (uU ch n_7 co) (fun u=>(sT 63 [(0,.hs 1 0 [] 1 0 (u.2.2.map I).length),(1,I u.1),(2,.fn 118 [.iptr (ai co) 0]),(6,I (20)),(7,I u.2.1)] [⟨0,1,u.2.2.map I⟩] 2)) fun x4=>(sT 63 [(0,.hs 1 0 [] 1 0 (x4.2.2.map I).length),(1,I n_7),(2,.fn 118 [.iptr (ai co) 0]),(6,I (20)),(7,I x4.1),(8,I x4.2.1)] [⟨0,1,x4.2.2.map I⟩] 2):=ef (AZ ch n_7 co) fun {Q K} hK self ih x4 y h hr hn=>by
 unfold ky at h
 refine cq 7 [13] [B (decide (x4.2.1≤n_7))] 50 ?_
 refine sq h ?_ ?_<;>intro h
 ·refine aq 1 ?_
  refine cq 7 [14,15,16,17] [.hs 1 0 [] 1 0 (x4.2.2.map I).length,I x4.1,I x4.2.1,.fn 118 [.iptr (ai co) 0]] 114 ?_
  obtain⟨r5,hr5,h⟩:=bS h
  obtain⟨g6,h⟩:=gG h
  refine oq 130 (.tup []) rfl (bG rfl rfl (bX rfl rfl rfl (iC (iH rfl (eO (path:=[]) rfl rfl aE rfl)) (bg (bT rfl) (bg (bT rfl) (bg (nk (dD (fS rfl) gK)) cX)))) (VY hr5) (.inr rfl) (gI rfl rfl rfl rfl dF) rfl rfl rfl)) ?_
  try rw[eA (f:=I) (xs:=x4.2.2) (ys:=r5) g6]
  refine cq 13 [7,8] [I x4.2.1,I (ac (x4.2.1+20))] 226 ?_
  refine cY ?_
  exact rf [0,1,2,6,7,8] [1] (ih _ _ h hr hn :)
 ·refine aq 1 ?_
  exact rf [0,1,2,6,7] [1] (hn _ (an h) :) (hk:=hK)
theorem P0 (ch:List Int)(n_7:Int)(co:State)(u7:Int×Int×(List Int))(x10:Int×(List Int)):cj uT 1 (yb (ch,n_7,co)) acp 4 (uW ch n_7 co u7 x10) (fun u=>(sT 63 [(0,.hs 1 0 [] 1 0 (u.2.map I).length),(1,I u7.1),(2,.fn 118 [.iptr (ai co) 0]),(6,I x10.1),(7,I u.1)] [⟨0,1,u.2.map I⟩] 2)) fun x11=>(sT 63 [(0,.hs 1 0 [] 1 0 (x11.2.2.map I).length),(1,I u7.1),(2,.fn 118 [.iptr (ai co) 0]),(6,I x10.1),(7,I x11.1),(8,I x11.2.1)] [⟨0,1,x11.2.2.map I⟩] 2):=ef (A6 ch n_7 co u7 x10) fun {Q K} hK self ih x11 y h hr hn=>by
 unfold oC at h
 refine cq 7 [35] [B (decide (x11.2.1≤u7.1))] 50 ?_
 refine sq h ?_ ?_<;>intro h
 ·refine aq 1 ?_
  refine cq 10 [36,37,40,41,42] [.hs 1 0 [] 1 0 (x11.2.2.map I).length,I x11.1,I (ac (x11.1+x10.1)),I x11.2.1,.fn 118 [.iptr (ai co) 0]] 162 ?_
  obtain⟨r12,hr12,h⟩:=bS h
  obtain⟨g13,h⟩:=gG h
  refine oq 178 (.tup []) rfl (bG rfl rfl (bX rfl rfl rfl (iC (iH rfl (eO (path:=[]) rfl rfl aE rfl)) (bg (bT rfl) (bg (bT rfl) (bg (bT rfl) (bg (nk (dD (fS rfl) gK)) cX))))) (V5 hr12) (.inr rfl) (gI rfl rfl rfl rfl dF) rfl rfl rfl)) ?_
  try rw[eA (f:=I) (xs:=x11.2.2) (ys:=r12) g13]
  refine cq 14 [7,8] [I x11.2.1,I (ac (x11.2.1+(ac (2*x10.1))))] 290 ?_
  refine cY ?_
  exact rf [0,1,2,6,7,8] [1] (ih _ _ h hr hn :)
 ·refine aq 1 ?_
  exact rf [0,1,2,6,7] [1] (hn _ (an h) :) (hk:=hK)
theorem PZ (ch:List Int)(n_7:Int)(co:State)(u7:Int×Int×(List Int)):cj uT 1 (yb (ch,n_7,co)) zE 2 (uV ch n_7 co u7) (fun u=>(sT 63 [] [⟨0,1,u.map I⟩] 2)) fun x10=>(sT 63 [(0,.hs 1 0 [] 1 0 (x10.2.map I).length),(1,I u7.1),(2,.fn 118 [.iptr (ai co) 0]),(6,I x10.1)] [⟨0,1,x10.2.map I⟩] 2):=ef (A5 ch n_7 co u7) fun {Q K} hK self ih x10 y h hr hn=>by
 unfold jv at h
 refine cq 7 [30] [B (decide (x10.1<u7.1))] 50 ?_
 refine sq h ?_ ?_<;>intro h
 ·refine aq 1 ?_
  refine cq 10 [7,8] [I (0),I (ac (2*x10.1))] 114 ?_
  obtain⟨y14,hy14,hy141,hy142⟩:=bL h
  refine bO rfl ?_
  refine rf [0,1,2,6,7,8] [1] (P0 ch n_7 co u7 x10 rfl (0,(ac (2*x10.1)),x10.2) _ hy14 (fun r' e st hq=>hr r' (hy141 r' e) st hq) fun u14 hu=>?_)
  replace h:=hy142 u14 hu
  refine cq 14 [9,54] [I (ac (u14.1+x10.1)),B (decide ((ac (u14.1+x10.1))<u7.1))] 114 ?_
  obtain⟨y15,hy15,hy151,hy152⟩:=bL h
  have j15:∀u15,y15=.inr u15→Run uT 1 Q (.code (cR (cR (cR (cL (cR zE)))))::.blk 3::.lp zE::.blk 2::K) (sT 63 [(0,.hs 1 0 [] 1 0 (u15.map I).length),(1,I u7.1),(2,.fn 118 [.iptr (ai co) 0]),(6,I x10.1)] [⟨0,1,u15.map I⟩] 2):=by
   intro u15 hu
   replace h:=hy152 u15 hu
   refine cq 6 [6] [I (ac (x10.1*2))] 50 ?_
   refine cY ?_
   exact rf [0,1,2,6] [1] (ih _ _ h hr hn :)
  have r15:∀r',y15=.inl r'→∀st,yb (ch,n_7,co) r' st→Q st:=fun r' e st hq=>hr r' (hy151 r' e) st hq
  replace h:=hy15
  refine sq h ?_ ?_<;>intro h
  ·refine cq 6 [55,56,57,58,59] [.hs 1 0 [] 1 0 (u14.2.map I).length,I u14.1,I (ac (u14.1+x10.1)),I u7.1,.fn 118 [.iptr (ai co) 0]] 194 ?_
   obtain⟨r16,hr16,h⟩:=bS h
   obtain⟨g17,h⟩:=gG h
   refine oq 210 (.tup []) rfl (bG rfl rfl (bX rfl rfl rfl (iC (iH rfl (eO (path:=[]) rfl rfl aE rfl)) (bg (bT rfl) (bg (bT rfl) (bg (bT rfl) (bg (nk (dD (fS rfl) gK)) cX))))) (V5 hr16) (.inr rfl) (gI rfl rfl rfl rfl dF) rfl rfl rfl)) ?_
   try rw[eA (f:=I) (xs:=u14.2) (ys:=r16) g17]
   refine aq 1 ?_
   exact rf [0,1,2,6] [1] (j15 _ (an h) :)
  ·refine aq 1 ?_
   exact rf [0,1,2,6] [1] (j15 _ (an h) :)
 ·refine aq 1 ?_
  exact rf [] [1] (hn _ (an h) :) (hk:=hK)
theorem ZE (ch:List Int)(n_7:Int)(co:State)(r:(List Int))(h:Dk ch n_7 co=some r):br uT Tryz.f154 [true,false,false] 1 (GI (ch,n_7,co)) (GJ r):=by
 show Run _ _ (yb (ch,n_7,co) r) [.code Nt] _
 refine rI 63 [(0,.hs 1 0 [] 1 0 (ch.map I).length),(1,I n_7),(2,.fn 118 [.iptr (ai co) 0])] [(1,some ⟨0,1,ch.map I⟩)] 2 ?_
 unfold Dk at h
 refine cq 12 [6,7,8] [I (20),I (0),I (20)] 66 ?_
 obtain⟨y7,hy7,hy71,hy72⟩:=bJ h
 refine bO rfl ?_
 refine rf [0,1,2,6,7,8] [1] (PY ch n_7 co rfl (0,20,ch) _ hy7 (fun r' e st hq=>by rw[hy71 r' e] at hq;exact hq) fun u7 hu=>?_)
 replace h:=hy72 u7 hu
 refine cq 6 [23,24,25,26] [.hs 1 0 [] 1 0 (u7.2.2.map I).length,I u7.2.1,I u7.1,.fn 118 [.iptr (ai co) 0]] 66 ?_
 obtain⟨r8,hr8,h⟩:=bS h
 obtain⟨g9,h⟩:=gG h
 refine oq 82 (.tup []) rfl (bG rfl rfl (bX rfl rfl rfl (iC (iH rfl (eO (path:=[]) rfl rfl aE rfl)) (bg (bT rfl) (bg (bT rfl) (bg (nk (dD (fS rfl) gK)) cX)))) (VY hr8) (.inr rfl) (gI rfl rfl rfl rfl dF) rfl rfl rfl)) ?_
 try rw[eA (f:=I) (xs:=u7.2.2) (ys:=r8) g9]
 refine aq 2 ?_
 obtain⟨y18,hy18,hy181,hy182⟩:=bJ h
 refine bO rfl ?_
 refine rf [0,1,2,6] [1] (PZ ch n_7 co u7 rfl (20,r8) _ hy18 (fun r' e st hq=>by rw[hy181 r' e] at hq;exact hq) fun u18 hu=>?_)
 replace h:=hy182 u18 hu
 obtain⟨g19,h⟩:=gG h
 obtain rfl:=sI h
 exact Ab ⟨_,fin (vs:=[]) rfl dU rfl (jq rfl (ko (f:=I) (xs:=u18) (by simpa using g19) rfl) (cu (cu eN))),qi eH⟩
theorem V1 {G:b7}:bZ G 154 Dl:=gT 3 1 (aO VZ (aO V6 bv)) cf Tryz.func154 (fun a r h=>ZE a.1 a.2.1 a.2.2 r h)
def GA:((List Int)×State)→List V:=cA (o9 1 I) (oA (fun x:State=>(.fn 118 [.iptr (bH x) 0]:V)))
def GB (r:(List Int)):V×List V:=(.tup [],[.usl 1 (r.map I)])
noncomputable def Dh :=bi [true,false] GA GB fun x=>vZ x.1 x.2
theorem afp {x_3:List Int}{qu:State}{r}(h:vZ x_3 qu=some r):Dh.F (GA (x_3,qu))=some (GB r):=aJ (aN (fu bc) (aK (iE cd))) h
noncomputable def afr :=aH Tryz.f117
noncomputable def VW :=ce [(154,Dl)]
def afq (x:(List Int)×State)(r:(List Int)):St→Prop:=QF VW Tryz.f117 [true,false] (GA x) (GB r)
theorem ZB (x_3:List Int)(qu:State)(r:(List Int))(h:vZ x_3 qu=some r):br VW Tryz.f117 [true,false] 1 (GA (x_3,qu)) (GB r):=by
 show Run _ _ (afq (x_3,qu) r) [.code afr] _
 refine rI 9 [(0,.hs 1 0 [] 1 0 (x_3.map I).length),(1,.fn 118 [.iptr (ai qu) 0])] [(1,some ⟨0,1,x_3.map I⟩)] 2 ?_
 unfold vZ at h
 refine cq 3 [4,5] [.hs 1 0 [] 1 0 (x_3.map I).length,.hs 1 0 [] 1 0 (x_3.map I).length] 34 ?_
 refine oq 50 (I (len x_3)) rfl (bw rfl rfl rfl (nG (f:=I) (xs:=x_3) rfl rfl)) ?_
 refine cq 1 [7] [.fn 118 [.iptr (ai qu) 0]] 66 ?_
 obtain⟨r3,hr3,h⟩:=bS h
 obtain⟨g4,h⟩:=gG h
 refine oq 82 (.tup []) rfl (bG rfl rfl (bX rfl rfl rfl (iC (iH rfl (eO (path:=[]) rfl rfl aE rfl)) (bg (bT rfl) (bg (nk (dD (fS rfl) gK)) cX))) (aft hr3) (.inr rfl) (gI rfl rfl rfl rfl dF) rfl rfl rfl)) ?_
 try rw[eA (f:=I) (xs:=x_3) (ys:=r3) g4]
 refine aq 1 ?_
 obtain⟨g5,h⟩:=gG h
 obtain rfl:=sI h
 exact Ab ⟨_,fin (vs:=[]) rfl dU rfl (jq rfl (ko (f:=I) (xs:=r3) (by simpa using g5) rfl) (cu eN)),qi eH⟩
theorem VX {G:b7}:bZ G 117 Dh:=gT 2 1 (aO V1 bv) cf Tryz.func117 (fun a r h=>ZB a.1 a.2 r h)
def Me:(Contract×State×Int)→List V:=cA aP (cA bH (oA (fun x:Int=>(.fn 120 [.iptr (I x) 0]:V))))
def Mg (r:(List Int)):V×List V:=(.usl 1 (r.map I),[])
noncomputable def JY :=bi [false,false,false] Me Mg fun x=>NX x.1 x.2.1 x.2.2
theorem ag1 {c_1:Contract}{s_2:State}{d8:Int}{r}(h:NX c_1 s_2 d8=some r):JY.F (Me (c_1,s_2,d8))=some (Mg r):=aJ (aN bb (aN cd (aK (iE bc)))) h
noncomputable def abS :=aH Tryz.f70
noncomputable abbrev vq :=cL (cL (cR (cL (cR (cR abS)))))
noncomputable def Io :=ce [(120,JX),(117,Dh)]
def Mf (x:Contract×State×Int)(r:(List Int)):St→Prop:=QF Io Tryz.f70 [false,false,false] (Me x) (Mg r)
theorem Si (c_1:Contract)(s_2:State)(d8:Int):cj Io 0 (Mf (c_1,s_2,d8)) vq 0 (qL c_1 s_2 d8) (fun u=>(sT 42 [(4,.hp 1 0 [] 5 0 0),(7,.hs 2 0 [] 1 0 (u.map I).length)] [⟨0,5,[ai s_2]⟩,⟨0,1,u.map I⟩] 3)) fun x4=>(sT 42 [(2,.fn 120 [.iptr (I d8) 0]),(3,.hp 1 0 [] 2 0 0),(4,.hp 2 0 [] 5 0 0),(7,.hs 3 0 [] 1 0 (x4.2.map I).length),(12,.isl false (s_2.Duties.map ah)),(13,I (len s_2.Duties)),(14,I x4.1)] [⟨0,2,[aa c_1]⟩,⟨0,5,[ai s_2]⟩,⟨0,1,x4.2.map I⟩] 4):=ef (Ip c_1 s_2 d8) fun {Q K} hK self ih x4 y h hr hn=>by
 unfold nM at h
 refine cq 5 [15] [B (decide (x4.1<(len s_2.Duties)))] 20 ?_
 refine sq h ?_ ?_<;>intro h
 ·refine aq 1 ?_
  refine cq 5 [16] [I x4.1] 36 ?_
  obtain⟨e5,he5,h⟩:=bS h
  refine oq 52 (.iptr (ah e5) 0) rfl (al rfl rfl rfl (bo rfl rfl rfl rfl he5)) ?_
  refine ck 6 [8,9] [] [68] [] [I x4.1,.hp 68 0 [] 4 0 0] [some ⟨0,4,[ah e5]⟩] 116 (by kernel_rfl) ?_
  refine eb [0,1,3,7,15,15,15,79,15,271,975,1999,4095,8191] rfl (by decide +kernel) ?_
  refine dq [68] [] (.hp 68 0 [] 4 0 3) rfl (az rfl rfl rfl) ?_
  refine dq [68] [] (I e5.Status) rfl (aX rfl rfl) ?_
  refine dk 2 [22,21] [B (e5.Status==1),B (e5.Status==1)] ?_
  obtain⟨y6,hy6,hy61,hy62⟩:=bL h
  have j6:∀u6,y6=.inr u6→Run Io 0 Q (.code (cR (cR (cL (cL (cR (cR vq))))))::.blk 1::.code (cR (cR (cR vq)))::.lp vq::.blk 0::K) (sT 42 [(2,.fn 120 [.iptr (I d8) 0]),(3,.hp 1 0 [] 2 0 0),(4,.hp 2 0 [] 5 0 0),(7,.hs 3 0 [] 1 0 (x4.2.map I).length),(8,I x4.1),(12,.isl false (s_2.Duties.map ah)),(13,I (len s_2.Duties)),(14,I x4.1),(32,B u6)] [⟨0,2,[aa c_1]⟩,⟨0,5,[ai s_2]⟩,⟨0,1,x4.2.map I⟩] 4):=by
   intro u6 hu
   replace h:=hy62 u6 hu
   obtain⟨y7,hy7,hy71,hy72⟩:=bL h
   have j7:∀u7,y7=.inr u7→Run Io 0 Q (.blk 1::.code (cR (cR (cR vq)))::.lp vq::.blk 0::K) (sT 42 [(2,.fn 120 [.iptr (I d8) 0]),(3,.hp 1 0 [] 2 0 0),(4,.hp 2 0 [] 5 0 0),(7,.hs 3 0 [] 1 0 (u7.map I).length),(12,.isl false (s_2.Duties.map ah)),(13,I (len s_2.Duties)),(14,I x4.1)] [⟨0,2,[aa c_1]⟩,⟨0,5,[ai s_2]⟩,⟨0,1,u7.map I⟩] 4):=by
    intro u7 hu
    replace h:=hy72 u7 hu
    refine cq 5 [14] [I (ac (x4.1+1))] 36 ?_
    refine cY ?_
    exact rf [2,3,4,7,12,13,14] [1,2,3] (ih _ _ h hr hn :)
   have r7:∀r',y7=.inl r'→∀st,Mf (c_1,s_2,d8) r' st→Q st:=fun r' e st hq=>hr r' (hy71 r' e) st hq
   replace h:=hy7
   refine sq h ?_ ?_<;>intro h
   ·refine cq 3 [33,34] [.hs 3 0 [] 1 0 (x4.2.map I).length,I x4.1] 36 ?_
    refine oq 52 (.hs 36 0 [] 1 0 1) rfl (eM rfl (kI (f:=I) (xs:=[]) (z:=I (0)) (es:=[I x4.1]) (ws:=[I x4.1]) rfl rfl rfl (by decide) rfl (dY rfl) rfl)) ?_
    obtain⟨a8,ha8,h⟩:=bS h
    refine oq 68 (.hs 52 0 [] 1 0 (a8.map I).length) rfl (kJ rfl rfl rfl rfl rfl (pn (path:=[]) (f:=I) (xs:=x4.2) (ys:=[x4.1]) rfl rfl (vO rfl rfl rfl) rfl rfl rfl aE rfl (by decide) rX ha8 rfl sV)) ?_
    refine cq 2 [7] [.hs 52 0 [] 1 0 (a8.map I).length] 84 ?_
    exact rf [2,3,4,7,12,13,14] [1,2,52] (j7 _ (an h) :)
   ·refine aq 1 ?_
    exact rf [2,3,4,7,12,13,14] [1,2,3] (j7 _ (an h) :)
  have r6:∀r',y6=.inl r'→∀st,Mf (c_1,s_2,d8) r' st→Q st:=fun r' e st hq=>hr r' (hy61 r' e) st hq
  replace h:=hy6
  refine sp 22 h rfl ?_ ?_<;>intro h
  ·refine dk 1 [23] [.fn 120 [.iptr (I d8) 0]] ?_
   refine dy [68] [] (ah e5) rfl (aX rfl rfl) ?_
   refine dy [1] [] (.hp 1 0 [] 2 0 1) rfl (az rfl rfl rfl) ?_
   refine dy [1] [] (.isl false (c_1.Clauses.map au)) rfl (aX rfl rfl) ?_
   refine dy [68] [] (.hp 68 0 [] 4 0 0) rfl (az rfl rfl rfl) ?_
   refine dy [68] [] (I e5.Clause) rfl (aX rfl rfl) ?_
   obtain⟨e9,he9,h⟩:=bS h
   refine dy [] [] (.iptr (aB e9) 0) rfl (al rfl rfl rfl (bo rfl rfl rfl rfl he9)) ?_
   refine dy [] [] (aB e9) rfl (aX rfl rfl) ?_
   obtain⟨r10,hr10,h⟩:=bS h
   refine dy [] [] (B r10) rfl (cP (abQ hr10)) ?_ (d3 rfl rfl rfl rfl (bg (bT rfl) (bg (bT rfl) (bg (bT rfl) cX))) (abQ hr10) (.inr rfl) rfl)
   refine dk 1 [32] [B r10] ?_
   refine de 340 rfl rfl ?_
   exact rf [2,3,4,7,8,12,13,14,32] [1,2,3] (j6 _ (an h) :)
  ·refine dk 10 [32,31,30,29,28,27,26,25,24,23] [B false,.und,.und,.und,.und,.und,.und,.und,.und,.und] ?_
   refine de 340 rfl rfl ?_
   exact rf [2,3,4,7,8,12,13,14,32] [1,2,3] (j6 _ (an h) :)
 ·refine aq 1 ?_
  exact rf [4,7] [2,3] (hn _ (an h) :) (hk:=hK)
theorem acL (c_1:Contract)(s_2:State)(d8:Int)(r:(List Int))(h:NX c_1 s_2 d8=some r):br Io Tryz.f70 [false,false,false] 0 (Me (c_1,s_2,d8)) (Mg r):=by
 show Run _ _ (Mf (c_1,s_2,d8) r) [.code abS] _
 refine rI 42 [(0,aa c_1),(1,ai s_2),(2,.fn 120 [.iptr (I d8) 0])] [] 1 ?_
 unfold NX at h
 refine ck 8 [3,4] [] [1,17] [] [.hp 1 0 [] 2 0 0,.hp 17 0 [] 5 0 0] [some ⟨0,2,[aa c_1]⟩,some ⟨0,5,[ai s_2]⟩] 49 (by kernel_rfl) ?_
 refine oq 65 (.hs 49 0 [] 1 0 0) rfl (eM rfl (kI (f:=I) (xs:=[]) (z:=I (0)) (es:=[]) (ws:=[]) rfl rfl rfl (by decide) rfl (dY rfl) rfl)) ?_
 refine cq 7 [7,12] [.hs 49 0 [] 1 0 0,.isl false (s_2.Duties.map ah)] 113 ?_
 refine oq 129 (I (len s_2.Duties)) rfl (bw rfl rfl rfl (bN rfl)) ?_
 refine cq 3 [14] [I (0)] 145 ?_
 obtain⟨y11,hy11,hy111,hy112⟩:=bJ h
 refine bO rfl ?_
 refine rf [2,3,4,7,12,13,14] [1,17,49] (Si c_1 s_2 d8 rfl (0,[]) _ hy11 (fun r' e st hq=>by rw[hy111 r' e] at hq;exact hq) fun u11 hu=>?_)
 replace h:=hy112 u11 hu
 refine cq 4 [38,39] [.hs 2 0 [] 1 0 (u11.map I).length,.fn 118 [.hp 1 0 [] 5 0 0]] 35 ?_
 obtain⟨r12,hr12,h⟩:=bS h
 obtain⟨g13,h⟩:=gG h
 refine oq 51 (.tup []) rfl (bG rfl rfl (bX rfl rfl rfl (iC (iH rfl (eO (path:=[]) rfl rfl aE rfl)) (bg (nk (dD (rc (path:=[]) rfl rfl aE rfl rfl) gK)) cX)) (afp hr12) (.inl (by simp[cT,dE,str,kN (f:=I) qO])) (gI rfl rfl rfl rfl dF) rfl rfl rfl)) ?_
 try rw[eA (f:=I) (xs:=u11) (ys:=r12) g13]
 refine cq 6 [6] [.hs 2 0 [] 1 0 (r12.map I).length] 83 ?_
 obtain rfl:=sI h
 exact b8 rfl ⟨_,fin (vs:=[.hs 2 0 [] 1 0 (r12.map I).length]) rfl (eV (fZ rfl (dx rfl rfl)) dU) rfl (cu (cu (cu eN))),eH⟩
theorem aao {G:b7}:bZ G 70 JY:=gT 3 0 (aO aan (aO VX bv)) cf Tryz.func70 (fun a r h=>acL a.1 a.2.1 a.2.2 r h)
def L8:(Contract×State×Int)→List V:=cA aP (cA bH (oA I))
def L9 (r:(List Int)):V×List V:=(.usl 1 (r.map I),[])
noncomputable def JW :=bi [false,false,false] L8 L9 fun x=>QZ x.1 x.2.1 x.2.2
theorem agU {c_1:Contract}{s_2:State}{cg:Int}{r}(h:QZ c_1 s_2 cg=some r):JW.F (L8 (c_1,s_2,cg))=some (L9 r):=aJ (aN bb (aN cd (aK bc))) h
noncomputable def agW :=aH Tryz.f72
noncomputable def abO :=ce [(70,JY)]
def agV (x:Contract×State×Int)(r:(List Int)):St→Prop:=QF abO Tryz.f72 [false,false,false] (L8 x) (L9 r)
theorem acI (c_1:Contract)(s_2:State)(cg:Int)(r:(List Int))(h:QZ c_1 s_2 cg=some r):br abO Tryz.f72 [false,false,false] 0 (L8 (c_1,s_2,cg)) (L9 r):=by
 show Run _ _ (agV (c_1,s_2,cg) r) [.code agW] _
 refine rI 11 [(0,aa c_1),(1,ai s_2),(2,I cg)] [] 1 ?_
 unfold QZ at h
 refine ck 12 [7,8,9] [] [33] [] [aa c_1,ai s_2,.fn 120 [.hp 33 0 [] 1 0 0]] [some ⟨0,1,[I cg]⟩] 113 (by kernel_rfl) ?_
 obtain⟨r4,hr4,h⟩:=bS h
 refine oq 129 (.hs 113 0 [] 1 0 (r4.map I).length) rfl (bG rfl rfl (bX rfl rfl rfl (bg (bT rfl) (bg (bT rfl) (bg (nk (dD (rc (path:=[]) rfl rfl aE rfl rfl) gK)) cX))) (ag1 hr4) (.inl (by simp[cT,dE,str,kN (f:=I) qO])) dF rfl rfl rfl)) ?_
 refine cq 2 [6] [.hs 113 0 [] 1 0 (r4.map I).length] 145 ?_
 obtain rfl:=sI h
 exact b8 rfl ⟨_,fin (vs:=[.hs 113 0 [] 1 0 (r4.map I).length]) rfl (eV (fZ rfl (dx rfl rfl)) dU) rfl (cu (cu (cu eN))),eH⟩
theorem aam {G:b7}:bZ G 72 JW:=gT 3 0 (aO aao bv) cf Tryz.func72 (fun a r h=>acI a.1 a.2.1 a.2.2 r h)
def LM:(Contract×State×Int)→List V:=cA aP (cA bH (oA I))
def LN (r:(List Int)×Bool):V×List V:=(.tup [.usl 1 (r.1.map I),B r.2],[])
noncomputable def Ju :=bi [false,false,false] LM LN fun x=>KC x.1 x.2.1 x.2.2
theorem RJ {c_1:Contract}{s_2:State}{cg:Int}{r}(h:KC c_1 s_2 cg=some r):Ju.F (LM (c_1,s_2,cg))=some (LN r):=aJ (aN bb (aN cd (aK bc))) h
noncomputable def agH :=aH Tryz.f31
noncomputable def abH :=ce [(68,B0),(72,JW)]
def agG (x:Contract×State×Int)(r:(List Int)×Bool):St→Prop:=QF abH Tryz.f31 [false,false,false] (LM x) (LN r)
theorem acl (c_1:Contract)(s_2:State)(cg:Int)(r:(List Int)×Bool)(h:KC c_1 s_2 cg=some r):br abH Tryz.f31 [false,false,false] 0 (LM (c_1,s_2,cg)) (LN r):=by
 show Run _ _ (agG (c_1,s_2,cg) r) [.code agH] _
 refine rI 18 [(0,aa c_1),(1,ai s_2),(2,I cg)] [] 1 ?_
 unfold KC at h
 refine ck 13 [3,4,8,9,10] [] [1,17] [] [.hp 1 0 [] 2 0 0,.hp 17 0 [] 5 0 0,aa c_1,ai s_2,I cg] [some ⟨0,2,[aa c_1]⟩,some ⟨0,5,[ai s_2]⟩] 113 (by kernel_rfl) ?_
 refine oq 129 (.hs 113 0 [] 1 0 1) rfl (eM rfl (kI (f:=I) (xs:=[]) (z:=I (0)) (es:=[I cg]) (ws:=[I cg]) rfl rfl rfl (by decide) rfl (dY rfl) rfl)) ?_
 obtain⟨r4,hr4,h⟩:=bS h
 refine oq 145 (B r4) rfl (bG rfl rfl (bX rfl rfl rfl (bg (bT rfl) (bg (bT rfl) (bg (xp rfl rfl (dI (f:=I) (g:=I) (xs:=[cg]) rfl rfl (bP iY))) cX))) (adK hr4) (.inl rfl) dF rfl rfl rfl)) ?_
 refine cq 2 [13] [B (!r4)] 161 ?_
 refine sq h ?_ ?_<;>intro h
 ·refine cq 5 [6,7] [.isl true [],B false] 193 ?_
  refine Rx 6 0 1 209 (.hs 193 0 [] 1 0 0) rfl rfl rfl rfl rfl ?_
  obtain rfl:=sI h
  exact b8 rfl ⟨_,fin (vs:=[.hs 193 0 [] 1 0 0,B false]) rfl (eV (fZ rfl (dx (k:=0) (es:=[]) rfl rfl)) (eV (ba rfl) dU)) rfl (cu (cu (cu eN))),eH⟩
 ·refine aq 1 ?_
  refine cq 5 [14,15,16] [aa c_1,ai s_2,I cg] 209 ?_
  obtain⟨r5,hr5,h⟩:=bS h
  refine oq 225 (.hs 209 0 [] 1 0 (r5.map I).length) rfl (cP (agU hr5)) ?_
  refine cq 3 [6,7] [.hs 209 0 [] 1 0 (r5.map I).length,B true] 257 ?_
  obtain rfl:=sI h
  exact b8 rfl ⟨_,fin (vs:=[.hs 209 0 [] 1 0 (r5.map I).length,B true]) rfl (eV (fZ rfl (dx rfl rfl)) (eV (ba rfl) dU)) rfl (cu (cu (cu eN))),eH⟩
theorem YX {G:b7}:bZ G 31 Ju:=gT 3 0 (aO Tp (aO aam bv)) cf Tryz.func31 (fun a r h=>acl a.1 a.2.1 a.2.2 r h)
def E1:((List Int)×(List Int))→List V:=cA (gj I) (oA (gj I))
def E3 (r:Bool):V×List V:=(B r,[])
noncomputable def vS :=bi [false,false] E1 E3 fun x=>tL x.1 x.2
theorem E2 {a_1:List Int}{b_2:List Int}{r}(h:tL a_1 b_2=some r):vS.F (E1 (a_1,b_2))=some (E3 r):=aJ (aN (cn bc) (aK (cn bc))) h
noncomputable def T6 :=aH Tryz.f16
noncomputable def MV :=ce []
def T5 (x:(List Int)×(List Int))(r:Bool):St→Prop:=QF MV Tryz.f16 [false,false] (E1 x) (E3 r)
theorem Pv (a_1:List Int)(b_2:List Int):cj MV 0 (T5 (a_1,b_2)) (cL (cL (cR (cL (cR (cR T6)))))) 0 (uq a_1 b_2) (fun u=>(sT 26 [] [] 1)) fun x3=>(sT 26 [(0,.isl false (a_1.map I)),(1,.isl false (b_2.map I)),(5,I x3)] [] 1):=ef (Aq a_1 b_2) fun {Q K} hK self ih x3 y h hr hn=>by
 unfold oa at h
 refine cq 5 [11,12] [I x3,.isl false (a_1.map I)] 33 ?_
 refine oq 49 (I (len a_1)) rfl (bw rfl rfl rfl (bN rfl)) ?_
 refine cq 2 [14] [B (decide (x3<(len a_1)))] 65 ?_
 refine sq h ?_ ?_<;>intro h
 ·refine aq 1 ?_
  refine aq 3 ?_
  refine eb [0,0,3,7,0,0,48,112,255] rfl (by decide +kernel) ?_
  refine dk 2 [18,17] [I x3,.isl false (a_1.map I)] ?_
  obtain⟨e4,he4,h⟩:=bS h
  refine dq [] [] (.iptr (I e4) 0) rfl (al rfl rfl rfl (bo rfl rfl rfl rfl he4)) ?_
  refine dq [] [] (I e4) rfl (aX rfl rfl) ?_
  refine dk 2 [22,21] [I x3,.isl false (b_2.map I)] ?_
  obtain⟨e5,he5,h⟩:=bS h
  refine dq [] [] (.iptr (I e5) 0) rfl (al rfl rfl rfl (bo rfl rfl rfl rfl he5)) ?_
  refine dq [] [] (I e5) rfl (aX rfl rfl) ?_
  refine dk 1 [25] [B (e4 != e5)] ?_
  refine de 209 rfl rfl ?_
  refine sq h ?_ ?_<;>intro h
  ·refine cq 4 [4] [B false] 225 ?_
   exact b8 rfl (hr _ (an h) _ (qp [B false]))
  ·refine aq 1 ?_
   refine cq 6 [5] [I (ac (x3+1))] 257 ?_
   refine cY ?_
   exact rf [0,1,5] [] (ih _ _ h hr hn :)
 ·refine aq 1 ?_
  exact rf [] [] (hn _ (an h) :) (hk:=hK)
theorem YM (a_1:List Int)(b_2:List Int)(r:Bool)(h:tL a_1 b_2=some r):br MV Tryz.f16 [false,false] 0 (E1 (a_1,b_2)) (E3 r):=by
 show Run _ _ (T5 (a_1,b_2) r) [.code T6] _
 refine rI 26 [(0,.isl false (a_1.map I)),(1,.isl false (b_2.map I))] [] 1 ?_
 unfold tL at h
 refine cq 8 [6] [.isl false (a_1.map I)] 33 ?_
 refine oq 49 (I (len a_1)) rfl (bw rfl rfl rfl (bN rfl)) ?_
 refine cq 1 [8] [.isl false (b_2.map I)] 65 ?_
 refine oq 81 (I (len b_2)) rfl (bw rfl rfl rfl (bN rfl)) ?_
 refine cq 2 [10] [B ((len a_1) != (len b_2))] 97 ?_
 refine sq h ?_ ?_<;>intro h
 ·refine cq 4 [4] [B false] 113 ?_
  obtain rfl:=sI h
  exact rP [B false]
 ·refine aq 1 ?_
  refine cq 6 [5] [I (0)] 113 ?_
  obtain⟨y6,hy6,hy61,hy62⟩:=bJ h
  refine bO rfl ?_
  refine rf [0,1,5] [] (Pv a_1 b_2 rfl 0 _ hy6 (fun r' e st hq=>by rw[hy61 r' e] at hq;exact hq) fun u6 hu=>?_)
  replace h:=hy62 u6 hu
  refine cq 4 [4] [B true] 17 ?_
  obtain rfl:=sI h
  exact rP [B true]
theorem Kz {G:b7}:bZ G 16 vS:=gT 2 0 bv cf Tryz.func16 (fun a r h=>YM a.1 a.2 r h)
def E6:((List ae)×(List ae))→List V:=cA (gj str) (oA (gj str))
def E7 (r:Bool):V×List V:=(B r,[])
noncomputable def vT :=bi [false,false] E6 E7 fun x=>xD x.1 x.2
theorem Ua {a_1:List ae}{b_2:List ae}{r}(h:xD a_1 b_2=some r):vT.F (E6 (a_1,b_2))=some (E7 r):=aJ (aN (cn bQ) (aK (cn bQ))) h
noncomputable def Uc :=aH Tryz.f49
noncomputable def MW :=ce []
def Ub (x:(List ae)×(List ae))(r:Bool):St→Prop:=QF MW Tryz.f49 [false,false] (E6 x) (E7 r)
theorem Pw (a_1:List ae)(b_2:List ae):cj MW 0 (Ub (a_1,b_2)) (cL (cL (cR (cL (cR (cR Uc)))))) 0 (ur a_1 b_2) (fun u=>(sT 26 [] [] 1)) fun x3=>(sT 26 [(0,.isl false (a_1.map str)),(1,.isl false (b_2.map str)),(5,I x3)] [] 1):=ef (Ar a_1 b_2) fun {Q K} hK self ih x3 y h hr hn=>by
 unfold ob at h
 refine cq 5 [11,12] [I x3,.isl false (a_1.map str)] 33 ?_
 refine oq 49 (I (len a_1)) rfl (bw rfl rfl rfl (bN rfl)) ?_
 refine cq 2 [14] [B (decide (x3<(len a_1)))] 65 ?_
 refine sq h ?_ ?_<;>intro h
 ·refine aq 1 ?_
  refine aq 3 ?_
  refine eb [0,0,3,7,0,0,48,112,255] rfl (by decide +kernel) ?_
  refine dk 2 [18,17] [I x3,.isl false (a_1.map str)] ?_
  obtain⟨e4,he4,h⟩:=bS h
  refine dq [] [] (.iptr (str e4) 0) rfl (al rfl rfl rfl (bo rfl rfl rfl rfl he4)) ?_
  refine dq [] [] (str e4) rfl (aX rfl rfl) ?_
  refine dk 2 [22,21] [I x3,.isl false (b_2.map str)] ?_
  obtain⟨e5,he5,h⟩:=bS h
  refine dq [] [] (.iptr (str e5) 0) rfl (al rfl rfl rfl (bo rfl rfl rfl rfl he5)) ?_
  refine dq [] [] (str e5) rfl (aX rfl rfl) ?_
  refine dk 1 [25] [B (!(e4==e5))] ?_
  refine de 209 rfl rfl ?_
  refine sq h ?_ ?_<;>intro h
  ·refine cq 4 [4] [B false] 225 ?_
   exact b8 rfl (hr _ (an h) _ (qp [B false]))
  ·refine aq 1 ?_
   refine cq 6 [5] [I (ac (x3+1))] 257 ?_
   refine cY ?_
   exact rf [0,1,5] [] (ih _ _ h hr hn :)
 ·refine aq 1 ?_
  exact rf [] [] (hn _ (an h) :) (hk:=hK)
theorem YO (a_1:List ae)(b_2:List ae)(r:Bool)(h:xD a_1 b_2=some r):br MW Tryz.f49 [false,false] 0 (E6 (a_1,b_2)) (E7 r):=by
 show Run _ _ (Ub (a_1,b_2) r) [.code Uc] _
 refine rI 26 [(0,.isl false (a_1.map str)),(1,.isl false (b_2.map str))] [] 1 ?_
 unfold xD at h
 refine cq 8 [6] [.isl false (a_1.map str)] 33 ?_
 refine oq 49 (I (len a_1)) rfl (bw rfl rfl rfl (bN rfl)) ?_
 refine cq 1 [8] [.isl false (b_2.map str)] 65 ?_
 refine oq 81 (I (len b_2)) rfl (bw rfl rfl rfl (bN rfl)) ?_
 refine cq 2 [10] [B ((len a_1) != (len b_2))] 97 ?_
 refine sq h ?_ ?_<;>intro h
 ·refine cq 4 [4] [B false] 113 ?_
  obtain rfl:=sI h
  exact rP [B false]
 ·refine aq 1 ?_
  refine cq 6 [5] [I (0)] 113 ?_
  obtain⟨y6,hy6,hy61,hy62⟩:=bJ h
  refine bO rfl ?_
  refine rf [0,1,5] [] (Pw a_1 b_2 rfl 0 _ hy6 (fun r' e st hq=>by rw[hy61 r' e] at hq;exact hq) fun u6 hu=>?_)
  replace h:=hy62 u6 hu
  refine cq 4 [4] [B true] 17 ?_
  obtain rfl:=sI h
  exact rP [B true]
theorem KA {G:b7}:bZ G 49 vT:=gT 2 0 bv cf Tryz.func49 (fun a r h=>YO a.1 a.2 r h)
def xz:(Condition×Condition)→List V:=cA bK (oA bK)
def xA (r:Bool):V×List V:=(B r,[])
noncomputable def ta (bA:(Condition×Condition)→Option Bool):Ent:=bi [false,false] xz xA bA
theorem Jt (bA:(Condition×Condition)→Option Bool){x}{r}(h:bA x=some r):(ta bA).F (xz x)=some (xA r):=aJ (aN dP (aK dP)) h
def ET:((List Condition)×(List Condition))→List V:=cA (gj aI) (oA (gj aI))
def EU (r:Bool):V×List V:=(B r,[])
noncomputable def Ci (bA:(Condition×Condition)→Option Bool):Ent:=bi [false,false] ET EU fun x=>xB bA x.1 x.2
theorem ad8 (bA:(Condition×Condition)→Option Bool){a_1:List Condition}{b_2:List Condition}{r}(h:xB bA a_1 b_2=some r):(Ci bA).F (ET (a_1,b_2))=some (EU r):=aJ (aN (cn fW) (aK (cn fW))) h
noncomputable def TS :=aH Tryz.f179
noncomputable def MT (bA:(Condition×Condition)→Option Bool):Env:=ce [(148,(ta bA))]
def TR (bA:(Condition×Condition)→Option Bool)(x:(List Condition)×(List Condition))(r:Bool):St→Prop:=QF (MT bA) Tryz.f179 [false,false] (ET x) (EU r)
theorem Pt (bA:(Condition×Condition)→Option Bool)(a_1:List Condition)(b_2:List Condition):cj (MT bA) 0 (TR bA (a_1,b_2)) (cL (cL (cR (cL (cR (cR TS)))))) 0 (rL bA a_1 b_2) (fun u=>(sT 27 [] [] 1)) fun x3=>(sT 27 [(0,.isl false (a_1.map aI)),(1,.isl false (b_2.map aI)),(5,I x3)] [] 1):=ef (Ao bA a_1 b_2) fun {Q K} hK self ih x3 y h hr hn=>by
 unfold lO at h
 refine cq 5 [11,12] [I x3,.isl false (a_1.map aI)] 33 ?_
 refine oq 49 (I (len a_1)) rfl (bw rfl rfl rfl (bN rfl)) ?_
 refine cq 2 [14] [B (decide (x3<(len a_1)))] 65 ?_
 refine sq h ?_ ?_<;>intro h
 ·refine aq 1 ?_
  refine aq 3 ?_
  refine eb [0,0,3,7,0,0,48,112,255,511] rfl (by decide +kernel) ?_
  refine dk 2 [18,17] [I x3,.isl false (a_1.map aI)] ?_
  obtain⟨e4,he4,h⟩:=bS h
  refine dq [] [] (.iptr (ar e4) 0) rfl (al rfl rfl rfl (bo rfl rfl (dK e4) rfl he4)) ?_
  refine dq [] [] (ar e4) rfl (aX rfl rfl) ?_
  refine dk 2 [22,21] [I x3,.isl false (b_2.map aI)] ?_
  obtain⟨e5,he5,h⟩:=bS h
  refine dq [] [] (.iptr (ar e5) 0) rfl (al rfl rfl rfl (bo rfl rfl (dK e5) rfl he5)) ?_
  refine dq [] [] (ar e5) rfl (aX rfl rfl) ?_
  obtain⟨r6,hr6,h⟩:=bS h
  refine dq [] [] (B r6) rfl (bG rfl rfl (bX rfl rfl rfl (bg (bT rfl) (bg (bT rfl) cX)) (Jt bA hr6) (.inr rfl) dF rfl rfl rfl)) ?_ (d3 rfl rfl rfl rfl (bg (bT rfl) (bg (bT rfl) cX)) (Jt bA hr6) (.inr rfl) rfl)
  refine dk 1 [26] [B (!r6)] ?_
  refine de 225 rfl rfl ?_
  refine sq h ?_ ?_<;>intro h
  ·refine cq 4 [4] [B false] 241 ?_
   exact b8 rfl (hr _ (an h) _ (qp [B false]))
  ·refine aq 1 ?_
   refine cq 6 [5] [I (ac (x3+1))] 273 ?_
   refine cY ?_
   exact rf [0,1,5] [] (ih _ _ h hr hn :)
 ·refine aq 1 ?_
  exact rf [] [] (hn _ (an h) :) (hk:=hK)
theorem YI (bA:(Condition×Condition)→Option Bool)(a_1:List Condition)(b_2:List Condition)(r:Bool)(h:xB bA a_1 b_2=some r):br (MT bA) Tryz.f179 [false,false] 0 (ET (a_1,b_2)) (EU r):=by
 show Run _ _ (TR bA (a_1,b_2) r) [.code TS] _
 refine rI 27 [(0,.isl false (a_1.map aI)),(1,.isl false (b_2.map aI))] [] 1 ?_
 unfold xB at h
 refine cq 8 [6] [.isl false (a_1.map aI)] 33 ?_
 refine oq 49 (I (len a_1)) rfl (bw rfl rfl rfl (bN rfl)) ?_
 refine cq 1 [8] [.isl false (b_2.map aI)] 65 ?_
 refine oq 81 (I (len b_2)) rfl (bw rfl rfl rfl (bN rfl)) ?_
 refine cq 2 [10] [B ((len a_1) != (len b_2))] 97 ?_
 refine sq h ?_ ?_<;>intro h
 ·refine cq 4 [4] [B false] 113 ?_
  obtain rfl:=sI h
  exact rP [B false]
 ·refine aq 1 ?_
  refine cq 6 [5] [I (0)] 113 ?_
  obtain⟨y7,hy7,hy71,hy72⟩:=bJ h
  refine bO rfl ?_
  refine rf [0,1,5] [] (Pt bA a_1 b_2 rfl 0 _ hy7 (fun r' e st hq=>by rw[hy71 r' e] at hq;exact hq) fun u7 hu=>?_)
  replace h:=hy72 u7 hu
  refine cq 4 [4] [B true] 17 ?_
  obtain rfl:=sI h
  exact rP [B true]
theorem TU {G:b7}(bA:(Condition×Condition)→Option Bool)(Oz:bZ G 148 (ta bA)):bZ G 179 (Ci bA):=gT 2 0 (aO Oz bv) cf Tryz.func179 (fun a r h=>YI bA a.1 a.2 r h)
noncomputable def Cg :=ta (aL qG)
theorem ad5 {a_1:Condition}{b_2:Condition}{r}(h:Cf a_1 b_2=some r):Cg.F (xz (a_1,b_2))=some (xA r):=Jt (aL qG) h
noncomputable def ad7 :=aH Tryz.f148
noncomputable def TP (bA:(Condition×Condition)→Option Bool):Env:=ce [(179,(Ci bA))]
def ad6 (bA:(Condition×Condition)→Option Bool)(x:Condition×Condition)(r:Bool):St→Prop:=QF (TP bA) Tryz.f148 [false,false] (xz x) (xA r)
theorem YH (bA:(Condition×Condition)→Option Bool)(a_1:Condition)(b_2:Condition)(r:Bool)(h:un bA a_1 b_2=some r):br (TP bA) Tryz.f148 [false,false] 0 (xz (a_1,b_2)) (xA r):=by
 show Run _ _ (ad6 bA (a_1,b_2) r) [.code ad7] _
 refine rI 26 [(0,ar a_1),(1,ar b_2)] [] 1 ?_
 unfold un at h
 refine ck 15 [2,3,9] [] [1,17] [] [.hp 1 0 [] 4 0 0,.hp 17 0 [] 4 0 0,B (a_1.Op != b_2.Op)] [some ⟨0,4,[ar a_1]⟩,some ⟨0,4,[ar b_2]⟩] 129 (by kernel_rfl) ?_
 refine sq h ?_ ?_<;>intro h
 ·refine cq 4 [4] [B false] 145 ?_
  obtain rfl:=sI h
  exact rP [B false]
 ·refine aq 1 ?_
  refine cq 9 [14] [B (!(a_1.Name==b_2.Name))] 209 ?_
  refine sq h ?_ ?_<;>intro h
  ·refine cq 4 [4] [B false] 225 ?_
   obtain rfl:=sI h
   exact rP [B false]
  ·refine aq 1 ?_
   refine cq 9 [19] [B (a_1.Day != b_2.Day)] 289 ?_
   refine sq h ?_ ?_<;>intro h
   ·refine cq 4 [4] [B false] 305 ?_
    obtain rfl:=sI h
    exact rP [B false]
   ·refine aq 1 ?_
    refine cq 7 [21,23] [.isl false (a_1.Parts.map aI),.isl false (b_2.Parts.map aI)] 353 ?_
    obtain⟨r3,hr3,h⟩:=bS h
    refine oq 369 (B r3) rfl (bG rfl rfl (bX rfl rfl rfl (bg (bT rfl) (bg (bT rfl) cX)) (ad8 bA hr3) (.inr rfl) dF rfl rfl rfl)) ?_
    refine cq 2 [25] [B (!r3)] 385 ?_
    refine sq h ?_ ?_<;>intro h
    ·refine cq 4 [4] [B false] 401 ?_
     obtain rfl:=sI h
     exact rP [B false]
    ·refine aq 1 ?_
     refine cq 4 [4] [B true] 401 ?_
     obtain rfl:=sI h
     exact rP [B true]
theorem TQ {G:b7}:bZ G 148 Cg:=jM fun bA Oz=>gT 2 0 (aO (TU bA Oz) bv) cf Tryz.func148 (fun a r h=>YH bA a.1 a.2 r h)
def EP:(Clause×Clause)→List V:=cA au (oA au)
def EQ (r:Bool):V×List V:=(B r,[])
noncomputable def Cc :=bi [false,false] EP EQ fun x=>xy x.1 x.2
theorem TJ {a_1:Clause}{b_2:Clause}{r}(h:xy a_1 b_2=some r):Cc.F (EP (a_1,b_2))=some (EQ r):=aJ (aN dV (aK dV)) h
noncomputable def ad3 :=aH Tryz.f104
noncomputable def TH :=ce [(148,Cg)]
def ad2 (x:Clause×Clause)(r:Bool):St→Prop:=QF TH Tryz.f104 [false,false] (EP x) (EQ r)
theorem YE (a_1:Clause)(b_2:Clause)(r:Bool)(h:xy a_1 b_2=some r):br TH Tryz.f104 [false,false] 0 (EP (a_1,b_2)) (EQ r):=by
 show Run _ _ (ad2 (a_1,b_2) r) [.code ad3] _
 refine rI 51 [(0,aB a_1),(1,aB b_2)] [] 1 ?_
 unfold xy at h
 refine ck 15 [2,3,9] [] [1,17] [] [.hp 1 0 [] 12 0 0,.hp 17 0 [] 12 0 0,B (!(a_1.Id==b_2.Id))] [some ⟨0,12,[aB a_1]⟩,some ⟨0,12,[aB b_2]⟩] 129 (by kernel_rfl) ?_
 refine sq h ?_ ?_<;>intro h
 ·refine cq 4 [4] [B false] 145 ?_
  obtain rfl:=sI h
  exact rP [B false]
 ·refine aq 1 ?_
  refine cq 9 [14] [B (a_1.Kind != b_2.Kind)] 209 ?_
  refine sq h ?_ ?_<;>intro h
  ·refine cq 4 [4] [B false] 225 ?_
   obtain rfl:=sI h
   exact rP [B false]
  ·refine aq 1 ?_
   refine cq 9 [19] [B (a_1.Party != b_2.Party)] 289 ?_
   refine sq h ?_ ?_<;>intro h
   ·refine cq 4 [4] [B false] 305 ?_
    obtain rfl:=sI h
    exact rP [B false]
   ·refine aq 1 ?_
    refine cq 9 [24] [B (!(a_1.Action==b_2.Action))] 369 ?_
    refine sq h ?_ ?_<;>intro h
    ·refine cq 4 [4] [B false] 385 ?_
     obtain rfl:=sI h
     exact rP [B false]
    ·refine aq 1 ?_
     refine cq 9 [29] [B (a_1.Other != b_2.Other)] 449 ?_
     refine sq h ?_ ?_<;>intro h
     ·refine cq 4 [4] [B false] 465 ?_
      obtain rfl:=sI h
      exact rP [B false]
     ·refine aq 1 ?_
      refine cq 9 [34] [B (a_1.Amount != b_2.Amount)] 529 ?_
      refine sq h ?_ ?_<;>intro h
      ·refine cq 4 [4] [B false] 545 ?_
       obtain rfl:=sI h
       exact rP [B false]
      ·refine aq 1 ?_
       refine cq 7 [36,38] [ar a_1.When,ar b_2.When] 593 ?_
       obtain⟨r3,hr3,h⟩:=bS h
       refine oq 609 (B r3) rfl (cP (ad5 hr3)) ?_
       refine cq 2 [40] [B (!r3)] 625 ?_
       refine sq h ?_ ?_<;>intro h
       ·refine cq 4 [4] [B false] 641 ?_
        obtain rfl:=sI h
        exact rP [B false]
       ·refine aq 1 ?_
        refine cq 9 [45] [B (a_1.Within != b_2.Within)] 705 ?_
        refine sq h ?_ ?_<;>intro h
        ·refine cq 4 [4] [B false] 721 ?_
         obtain rfl:=sI h
         exact rP [B false]
        ·refine aq 1 ?_
         refine cq 9 [50] [B (!(a_1.Repair==b_2.Repair))] 785 ?_
         refine sq h ?_ ?_<;>intro h
         ·refine cq 4 [4] [B false] 801 ?_
          obtain rfl:=sI h
          exact rP [B false]
         ·refine aq 1 ?_
          refine cq 4 [4] [B true] 801 ?_
          obtain rfl:=sI h
          exact rP [B true]
theorem TK {G:b7}:bZ G 104 Cc:=gT 2 0 (aO TQ bv) cf Tryz.func104 (fun a r h=>YE a.1 a.2 r h)
def ER:((List Clause)×(List Clause))→List V:=cA (gj au) (oA (gj au))
def ES (r:Bool):V×List V:=(B r,[])
noncomputable def Ce :=bi [false,false] ER ES fun x=>Cd x.1 x.2
theorem ad4 {a_1:List Clause}{b_2:List Clause}{r}(h:Cd a_1 b_2=some r):Ce.F (ER (a_1,b_2))=some (ES r):=aJ (aN (cn dV) (aK (cn dV))) h
noncomputable def TM :=aH Tryz.f50
noncomputable def MS :=ce [(104,Cc)]
def TL (x:(List Clause)×(List Clause))(r:Bool):St→Prop:=QF MS Tryz.f50 [false,false] (ER x) (ES r)
theorem Ps (a_1:List Clause)(b_2:List Clause):cj MS 0 (TL (a_1,b_2)) (cL (cL (cR (cL (cR (cR TM)))))) 0 (um a_1 b_2) (fun u=>(sT 27 [] [] 1)) fun x3=>(sT 27 [(0,.isl false (a_1.map au)),(1,.isl false (b_2.map au)),(5,I x3)] [] 1):=ef (An a_1 b_2) fun {Q K} hK self ih x3 y h hr hn=>by
 unfold nY at h
 refine cq 5 [11,12] [I x3,.isl false (a_1.map au)] 33 ?_
 refine oq 49 (I (len a_1)) rfl (bw rfl rfl rfl (bN rfl)) ?_
 refine cq 2 [14] [B (decide (x3<(len a_1)))] 65 ?_
 refine sq h ?_ ?_<;>intro h
 ·refine aq 1 ?_
  refine aq 3 ?_
  refine eb [0,0,3,7,0,0,48,112,255,511] rfl (by decide +kernel) ?_
  refine dk 2 [18,17] [I x3,.isl false (a_1.map au)] ?_
  obtain⟨e4,he4,h⟩:=bS h
  refine dq [] [] (.iptr (aB e4) 0) rfl (al rfl rfl rfl (bo rfl rfl rfl rfl he4)) ?_
  refine dq [] [] (aB e4) rfl (aX rfl rfl) ?_
  refine dk 2 [22,21] [I x3,.isl false (b_2.map au)] ?_
  obtain⟨e5,he5,h⟩:=bS h
  refine dq [] [] (.iptr (aB e5) 0) rfl (al rfl rfl rfl (bo rfl rfl rfl rfl he5)) ?_
  refine dq [] [] (aB e5) rfl (aX rfl rfl) ?_
  obtain⟨r6,hr6,h⟩:=bS h
  refine dq [] [] (B r6) rfl (cP (TJ hr6)) ?_ (d3 rfl rfl rfl rfl (bg (bT rfl) (bg (bT rfl) cX)) (TJ hr6) (.inr rfl) rfl)
  refine dk 1 [26] [B (!r6)] ?_
  refine de 225 rfl rfl ?_
  refine sq h ?_ ?_<;>intro h
  ·refine cq 4 [4] [B false] 241 ?_
   exact b8 rfl (hr _ (an h) _ (qp [B false]))
  ·refine aq 1 ?_
   refine cq 6 [5] [I (ac (x3+1))] 273 ?_
   refine cY ?_
   exact rf [0,1,5] [] (ih _ _ h hr hn :)
 ·refine aq 1 ?_
  exact rf [] [] (hn _ (an h) :) (hk:=hK)
theorem YF (a_1:List Clause)(b_2:List Clause)(r:Bool)(h:Cd a_1 b_2=some r):br MS Tryz.f50 [false,false] 0 (ER (a_1,b_2)) (ES r):=by
 show Run _ _ (TL (a_1,b_2) r) [.code TM] _
 refine rI 27 [(0,.isl false (a_1.map au)),(1,.isl false (b_2.map au))] [] 1 ?_
 unfold Cd at h
 refine cq 8 [6] [.isl false (a_1.map au)] 33 ?_
 refine oq 49 (I (len a_1)) rfl (bw rfl rfl rfl (bN rfl)) ?_
 refine cq 1 [8] [.isl false (b_2.map au)] 65 ?_
 refine oq 81 (I (len b_2)) rfl (bw rfl rfl rfl (bN rfl)) ?_
 refine cq 2 [10] [B ((len a_1) != (len b_2))] 97 ?_
 refine sq h ?_ ?_<;>intro h
 ·refine cq 4 [4] [B false] 113 ?_
  obtain rfl:=sI h
  exact rP [B false]
 ·refine aq 1 ?_
  refine cq 6 [5] [I (0)] 113 ?_
  obtain⟨y7,hy7,hy71,hy72⟩:=bJ h
  refine bO rfl ?_
  refine rf [0,1,5] [] (Ps a_1 b_2 rfl 0 _ hy7 (fun r' e st hq=>by rw[hy71 r' e] at hq;exact hq) fun u7 hu=>?_)
  replace h:=hy72 u7 hu
  refine cq 4 [4] [B true] 17 ?_
  obtain rfl:=sI h
  exact rP [B true]
theorem TN {G:b7}:bZ G 50 Ce:=gT 2 0 (aO TK bv) cf Tryz.func50 (fun a r h=>YF a.1 a.2 r h)
def EV:(Contract×Contract)→List V:=cA aP (oA aP)
def EW (r:Bool):V×List V:=(B r,[])
noncomputable def Ck :=bi [false,false] EV EW fun x=>Cj x.1 x.2
theorem TW {a_1:Contract}{b_2:Contract}{r}(h:Cj a_1 b_2=some r):Ck.F (EV (a_1,b_2))=some (EW r):=aJ (aN bb (aK bb)) h
noncomputable def aea :=aH Tryz.f17
noncomputable def TV :=ce [(49,vT),(50,Ce)]
def ad9 (x:Contract×Contract)(r:Bool):St→Prop:=QF TV Tryz.f17 [false,false] (EV x) (EW r)
theorem YJ (a_1:Contract)(b_2:Contract)(r:Bool)(h:Cj a_1 b_2=some r):br TV Tryz.f17 [false,false] 0 (EV (a_1,b_2)) (EW r):=by
 show Run _ _ (ad9 (a_1,b_2) r) [.code aea] _
 refine rI 17 [(0,aa a_1),(1,aa b_2)] [] 1 ?_
 unfold Cj at h
 refine ck 13 [2,3,6,8] [] [1,17] [] [.hp 1 0 [] 2 0 0,.hp 17 0 [] 2 0 0,.isl false (a_1.Parties.map str),.isl false (b_2.Parties.map str)] [some ⟨0,2,[aa a_1]⟩,some ⟨0,2,[aa b_2]⟩] 113 (by kernel_rfl) ?_
 obtain⟨r3,hr3,h⟩:=bS h
 refine oq 129 (B r3) rfl (cP (Ua hr3)) ?_
 refine cq 2 [10] [B (!r3)] 145 ?_
 refine sq h ?_ ?_<;>intro h
 ·refine cq 4 [4] [B false] 161 ?_
  obtain rfl:=sI h
  exact rP [B false]
 ·refine aq 1 ?_
  refine cq 7 [12,14] [.isl false (a_1.Clauses.map au),.isl false (b_2.Clauses.map au)] 209 ?_
  obtain⟨r4,hr4,h⟩:=bS h
  refine oq 225 (B r4) rfl (cP (ad4 hr4)) ?_
  refine cq 2 [16] [B (!r4)] 241 ?_
  refine sq h ?_ ?_<;>intro h
  ·refine cq 4 [4] [B false] 257 ?_
   obtain rfl:=sI h
   exact rP [B false]
  ·refine aq 1 ?_
   refine cq 4 [4] [B true] 257 ?_
   obtain rfl:=sI h
   exact rP [B true]
theorem TX {G:b7}:bZ G 17 Ck:=gT 2 0 (aO KA (aO TN bv)) cf Tryz.func17 (fun a r h=>YJ a.1 a.2 r h)
def EX:(Duty×Duty)→List V:=cA ah (oA ah)
def EY (r:Bool):V×List V:=(B r,[])
noncomputable def Cl :=bi [false,false] EX EY fun x=>xC x.1 x.2
theorem TZ {a_1:Duty}{b_2:Duty}{r}(h:xC a_1 b_2=some r):Cl.F (EX (a_1,b_2))=some (EY r):=aJ (aN eh (aK eh)) h
noncomputable def aec :=aH Tryz.f113
noncomputable def TY :=ce []
def aeb (x:Duty×Duty)(r:Bool):St→Prop:=QF TY Tryz.f113 [false,false] (EX x) (EY r)
theorem YK (a_1:Duty)(b_2:Duty)(r:Bool)(h:xC a_1 b_2=some r):br TY Tryz.f113 [false,false] 0 (EX (a_1,b_2)) (EY r):=by
 show Run _ _ (aeb (a_1,b_2) r) [.code aec] _
 refine rI 25 [(0,ah a_1),(1,ah b_2)] [] 1 ?_
 unfold xC at h
 refine ck 15 [2,3,9] [] [1,17] [] [.hp 1 0 [] 4 0 0,.hp 17 0 [] 4 0 0,B (a_1.Clause != b_2.Clause)] [some ⟨0,4,[ah a_1]⟩,some ⟨0,4,[ah b_2]⟩] 129 (by kernel_rfl) ?_
 refine sq h ?_ ?_<;>intro h
 ·refine cq 4 [4] [B false] 145 ?_
  obtain rfl:=sI h
  exact rP [B false]
 ·refine aq 1 ?_
  refine cq 9 [14] [B (a_1.Since != b_2.Since)] 209 ?_
  refine sq h ?_ ?_<;>intro h
  ·refine cq 4 [4] [B false] 225 ?_
   obtain rfl:=sI h
   exact rP [B false]
  ·refine aq 1 ?_
   refine cq 9 [19] [B (a_1.Due != b_2.Due)] 289 ?_
   refine sq h ?_ ?_<;>intro h
   ·refine cq 4 [4] [B false] 305 ?_
    obtain rfl:=sI h
    exact rP [B false]
   ·refine aq 1 ?_
    refine cq 9 [24] [B (a_1.Status != b_2.Status)] 369 ?_
    refine sq h ?_ ?_<;>intro h
    ·refine cq 4 [4] [B false] 385 ?_
     obtain rfl:=sI h
     exact rP [B false]
    ·refine aq 1 ?_
     refine cq 4 [4] [B true] 385 ?_
     obtain rfl:=sI h
     exact rP [B true]
theorem T0 {G:b7}:bZ G 113 Cl:=gT 2 0 bv cf Tryz.func113 (fun a r h=>YK a.1 a.2 r h)
def EZ:((List Duty)×(List Duty))→List V:=cA (gj ah) (oA (gj ah))
def E0 (r:Bool):V×List V:=(B r,[])
noncomputable def Cn :=bi [false,false] EZ E0 fun x=>Cm x.1 x.2
theorem aed {a_1:List Duty}{b_2:List Duty}{r}(h:Cm a_1 b_2=some r):Cn.F (EZ (a_1,b_2))=some (E0 r):=aJ (aN (cn eh) (aK (cn eh))) h
noncomputable def T3 :=aH Tryz.f62
noncomputable def MU :=ce [(113,Cl)]
def T1 (x:(List Duty)×(List Duty))(r:Bool):St→Prop:=QF MU Tryz.f62 [false,false] (EZ x) (E0 r)
theorem Pu (a_1:List Duty)(b_2:List Duty):cj MU 0 (T1 (a_1,b_2)) (cL (cL (cR (cL (cR (cR T3)))))) 0 (uo a_1 b_2) (fun u=>(sT 27 [] [] 1)) fun x3=>(sT 27 [(0,.isl false (a_1.map ah)),(1,.isl false (b_2.map ah)),(5,I x3)] [] 1):=ef (Ap a_1 b_2) fun {Q K} hK self ih x3 y h hr hn=>by
 unfold nZ at h
 refine cq 5 [11,12] [I x3,.isl false (a_1.map ah)] 33 ?_
 refine oq 49 (I (len a_1)) rfl (bw rfl rfl rfl (bN rfl)) ?_
 refine cq 2 [14] [B (decide (x3<(len a_1)))] 65 ?_
 refine sq h ?_ ?_<;>intro h
 ·refine aq 1 ?_
  refine aq 3 ?_
  refine eb [0,0,3,7,0,0,48,112,255,511] rfl (by decide +kernel) ?_
  refine dk 2 [18,17] [I x3,.isl false (a_1.map ah)] ?_
  obtain⟨e4,he4,h⟩:=bS h
  refine dq [] [] (.iptr (ah e4) 0) rfl (al rfl rfl rfl (bo rfl rfl rfl rfl he4)) ?_
  refine dq [] [] (ah e4) rfl (aX rfl rfl) ?_
  refine dk 2 [22,21] [I x3,.isl false (b_2.map ah)] ?_
  obtain⟨e5,he5,h⟩:=bS h
  refine dq [] [] (.iptr (ah e5) 0) rfl (al rfl rfl rfl (bo rfl rfl rfl rfl he5)) ?_
  refine dq [] [] (ah e5) rfl (aX rfl rfl) ?_
  obtain⟨r6,hr6,h⟩:=bS h
  refine dq [] [] (B r6) rfl (cP (TZ hr6)) ?_ (d3 rfl rfl rfl rfl (bg (bT rfl) (bg (bT rfl) cX)) (TZ hr6) (.inr rfl) rfl)
  refine dk 1 [26] [B (!r6)] ?_
  refine de 225 rfl rfl ?_
  refine sq h ?_ ?_<;>intro h
  ·refine cq 4 [4] [B false] 241 ?_
   exact b8 rfl (hr _ (an h) _ (qp [B false]))
  ·refine aq 1 ?_
   refine cq 6 [5] [I (ac (x3+1))] 273 ?_
   refine cY ?_
   exact rf [0,1,5] [] (ih _ _ h hr hn :)
 ·refine aq 1 ?_
  exact rf [] [] (hn _ (an h) :) (hk:=hK)
theorem YL (a_1:List Duty)(b_2:List Duty)(r:Bool)(h:Cm a_1 b_2=some r):br MU Tryz.f62 [false,false] 0 (EZ (a_1,b_2)) (E0 r):=by
 show Run _ _ (T1 (a_1,b_2) r) [.code T3] _
 refine rI 27 [(0,.isl false (a_1.map ah)),(1,.isl false (b_2.map ah))] [] 1 ?_
 unfold Cm at h
 refine cq 8 [6] [.isl false (a_1.map ah)] 33 ?_
 refine oq 49 (I (len a_1)) rfl (bw rfl rfl rfl (bN rfl)) ?_
 refine cq 1 [8] [.isl false (b_2.map ah)] 65 ?_
 refine oq 81 (I (len b_2)) rfl (bw rfl rfl rfl (bN rfl)) ?_
 refine cq 2 [10] [B ((len a_1) != (len b_2))] 97 ?_
 refine sq h ?_ ?_<;>intro h
 ·refine cq 4 [4] [B false] 113 ?_
  obtain rfl:=sI h
  exact rP [B false]
 ·refine aq 1 ?_
  refine cq 6 [5] [I (0)] 113 ?_
  obtain⟨y7,hy7,hy71,hy72⟩:=bJ h
  refine bO rfl ?_
  refine rf [0,1,5] [] (Pu a_1 b_2 rfl 0 _ hy7 (fun r' e st hq=>by rw[hy71 r' e] at hq;exact hq) fun u7 hu=>?_)
  replace h:=hy72 u7 hu
  refine cq 4 [4] [B true] 17 ?_
  obtain rfl:=sI h
  exact rP [B true]
theorem T4 {G:b7}:bZ G 62 Cn:=gT 2 0 (aO T0 bv) cf Tryz.func62 (fun a r h=>YL a.1 a.2 r h)
def E4:(State×State)→List V:=cA bH (oA bH)
def E5 (r:Bool):V×List V:=(B r,[])
noncomputable def Cp :=bi [false,false] E4 E5 fun x=>Co x.1 x.2
theorem T8 {a_1:State}{b_2:State}{r}(h:Co a_1 b_2=some r):Cp.F (E4 (a_1,b_2))=some (E5 r):=aJ (aN cd (aK cd)) h
noncomputable def aef :=aH Tryz.f25
noncomputable def T7 :=ce [(49,vT),(62,Cn),(16,vS)]
def aee (x:State×State)(r:Bool):St→Prop:=QF T7 Tryz.f25 [false,false] (E4 x) (E5 r)
theorem YN (a_1:State)(b_2:State)(r:Bool)(h:Co a_1 b_2=some r):br T7 Tryz.f25 [false,false] 0 (E4 (a_1,b_2)) (E5 r):=by
 show Run _ _ (aee (a_1,b_2) r) [.code aef] _
 refine rI 33 [(0,ai a_1),(1,ai b_2)] [] 1 ?_
 unfold Co at h
 refine ck 15 [2,3,9] [] [1,17] [] [.hp 1 0 [] 5 0 0,.hp 17 0 [] 5 0 0,B (a_1.Day != b_2.Day)] [some ⟨0,5,[ai a_1]⟩,some ⟨0,5,[ai b_2]⟩] 129 (by kernel_rfl) ?_
 refine sq h ?_ ?_<;>intro h
 ·refine cq 4 [4] [B false] 145 ?_
  obtain rfl:=sI h
  exact rP [B false]
 ·refine aq 1 ?_
  refine cq 7 [11,13] [.isl false (a_1.Facts.map str),.isl false (b_2.Facts.map str)] 193 ?_
  obtain⟨r3,hr3,h⟩:=bS h
  refine oq 209 (B r3) rfl (cP (Ua hr3)) ?_
  refine cq 2 [15] [B (!r3)] 225 ?_
  refine sq h ?_ ?_<;>intro h
  ·refine cq 4 [4] [B false] 241 ?_
   obtain rfl:=sI h
   exact rP [B false]
  ·refine aq 1 ?_
   refine cq 7 [17,19] [.isl false (a_1.Duties.map ah),.isl false (b_2.Duties.map ah)] 289 ?_
   obtain⟨r4,hr4,h⟩:=bS h
   refine oq 305 (B r4) rfl (cP (aed hr4)) ?_
   refine cq 2 [21] [B (!r4)] 321 ?_
   refine sq h ?_ ?_<;>intro h
   ·refine cq 4 [4] [B false] 337 ?_
    obtain rfl:=sI h
    exact rP [B false]
   ·refine aq 1 ?_
    refine cq 7 [23,25] [.isl false (a_1.Balances.map I),.isl false (b_2.Balances.map I)] 385 ?_
    obtain⟨r5,hr5,h⟩:=bS h
    refine oq 401 (B r5) rfl (cP (E2 hr5)) ?_
    refine cq 2 [27] [B (!r5)] 417 ?_
    refine sq h ?_ ?_<;>intro h
    ·refine cq 4 [4] [B false] 433 ?_
     obtain rfl:=sI h
     exact rP [B false]
    ·refine aq 1 ?_
     refine cq 9 [32] [B (!(a_1.Over==b_2.Over))] 497 ?_
     refine sq h ?_ ?_<;>intro h
     ·refine cq 4 [4] [B false] 513 ?_
      obtain rfl:=sI h
      exact rP [B false]
     ·refine aq 1 ?_
      refine cq 4 [4] [B true] 513 ?_
      obtain rfl:=sI h
      exact rP [B true]
theorem T9 {G:b7}:bZ G 25 Cp:=gT 2 0 (aO KA (aO T4 (aO Kz bv))) cf Tryz.func25 (fun a r h=>YN a.1 a.2 r h)
def Fs:Int→List V:=oA I
def Ft (r:ae):V×List V:=(str r,[])
noncomputable def sa :=bi [false] Fs Ft fun x=>pb x
theorem uB {k_1:Int}{r}(h:pb k_1=some r):sa.F (Fs k_1)=some (Ft r):=aJ (aK bc) h
noncomputable def UD :=aH Tryz.f105
noncomputable def M3 :=ce []
def UC (x:Int)(r:ae):St→Prop:=QF M3 Tryz.f105 [false] (Fs x) (Ft r)
theorem PD (k_1:Int):cj M3 0 (UC k_1) (cL (cL (cL (cR (cR (cR UD)))))) 0 (uC k_1) (fun u=>(sT 20 [(3,str u)] [] 1)) fun x2=>(sT 20 [(0,I x2.1),(3,str x2.2)] [] 1):=ef (AC k_1) fun {Q K} hK self ih x2 y h hr hn=>by
 unfold lV at h
 refine cq 6 [7] [B (decide (x2.1>0))] 33 ?_
 refine sq h ?_ ?_<;>intro h
 ·refine aq 1 ?_
  refine cq 7 [11] [.int .u8 (IntKind.u8.wrap (ac (48+(x2.1.tmod 10))))] 97 ?_
  refine oq 113 (.hs 97 0 [] 1 0 1) rfl (eM rfl (kI (f:=I) (xs:=[]) (z:=.int .u8 (0)) (es:=[.int .u8 (IntKind.u8.wrap (ac (48+(x2.1.tmod 10))))]) (ws:=[.int .u8 (IntKind.u8.wrap (ac (48+(x2.1.tmod 10))))]) rfl rfl rfl (by decide) rfl (dY rfl) rfl)) ?_
  refine oq 129 (str ([(IntKind.u8.wrap (ac (48+(x2.1.tmod 10))))].map fun n=>UInt8.ofNat n.toNat)) rfl (agb rfl (aaK (xs:=[(IntKind.u8.wrap (ac (48+(x2.1.tmod 10))))]) rfl rfl rfl (ahx (path:=[]) rfl rfl aE rfl))) ?_
  refine cq 1 [14] [str x2.2] 145 ?_
  obtain⟨s3,hs3,h⟩:=bS h
  refine oq 161 (str s3) rfl (ab8 rfl rfl (ab4 hs3)) ?_
  refine cq 8 [0,3] [I (ac (x2.1.tdiv 10)),str s3] 225 ?_
  refine cY ?_
  exact rf [0,3] [] (ih _ _ h hr hn :)
 ·refine aq 1 ?_
  exact rf [3] [] (hn _ (an h) :) (hk:=hK)
theorem YZ (k_1:Int)(r:ae)(h:pb k_1=some r):br M3 Tryz.f105 [false] 0 (Fs k_1) (Ft r):=by
 show Run _ _ (UC k_1 r) [.code UD] _
 refine rI 20 [(0,I k_1)] [] 1 ?_
 unfold pb at h
 refine cq 10 [5] [B (decide (k_1≤0))] 49 ?_
 refine sq h ?_ ?_<;>intro h
 ·refine cq 4 [2] [str ([109,48]:ae)] 65 ?_
  obtain rfl:=sI h
  exact rP [str ([109,48]:ae)]
 ·refine aq 1 ?_
  refine cq 6 [3] [str ([]:ae)] 65 ?_
  obtain⟨y4,hy4,hy41,hy42⟩:=bJ h
  refine bO rfl ?_
  refine rf [0,3] [] (PD k_1 rfl (k_1,([]:ae)) _ hy4 (fun r' e st hq=>by rw[hy41 r' e] at hq;exact hq) fun u4 hu=>?_)
  replace h:=hy42 u4 hu
  refine cq 3 [18] [str u4] 17 ?_
  obtain⟨s5,hs5,h⟩:=bS h
  refine oq 33 (str s5) rfl (ab8 rfl rfl (ab4 hs5)) ?_
  refine cq 2 [2] [str s5] 49 ?_
  obtain rfl:=sI h
  exact rP [str s5]
theorem xK {G:b7}:bZ G 105 sa:=gT 1 0 bv cf Tryz.func105 (fun a r h=>YZ a r h)
def Fp:((List ae)×Int)→List V:=cA (o9 1 str) (oA I)
def Fq (r:Int×(List ae)):V×List V:=(I r.1,[.usl 1 (r.2.map str)])
noncomputable def vV :=bi [true,false] Fp Fq fun x=>xJ x.1 x.2
theorem Uz {a_7:List ae}{k_8:Int}{r}(h:xJ a_7 k_8=some r):vV.F (Fp (a_7,k_8))=some (Fq r):=aJ (aN (fu bQ) (aK bc)) h
noncomputable def UB :=aH Tryz.f51
noncomputable def M2 :=ce [(105,sa)]
def UA (x:(List ae)×Int)(r:Int×(List ae)):St→Prop:=QF M2 Tryz.f51 [true,false] (Fp x) (Fq r)
theorem PC (a_7:List ae)(k_8:Int):cj M2 1 (UA (a_7,k_8)) (cL (cL (cR (cL (cR UB))))) 0 (uA a_7 k_8) (fun u=>(sT 20 [(1,I u.1)] [⟨0,1,u.2.map str⟩] 2)) fun x3=>(sT 20 [(0,.hs 1 0 [] 1 0 (x3.2.2.map str).length),(1,I x3.1),(5,I x3.2.1)] [⟨0,1,x3.2.2.map str⟩] 2):=ef (AB a_7 k_8) fun {Q K} hK self ih x3 y h hr hn=>by
 unfold lU at h
 refine cq 5 [6,7] [I x3.2.1,.hs 1 0 [] 1 0 (x3.2.2.map str).length] 34 ?_
 refine oq 50 (I (len x3.2.2)) rfl (bw rfl rfl rfl (nG (f:=str) (xs:=x3.2.2) rfl rfl)) ?_
 refine cq 2 [9] [B (decide (x3.2.1<(len x3.2.2)))] 66 ?_
 refine sq h ?_ ?_<;>intro h
 ·refine aq 1 ?_
  refine cq 7 [12,13,14] [.hs 1 0 [] 1 0 (x3.2.2.map str).length,I x3.2.1,I x3.1] 114 ?_
  obtain⟨r4,hr4,h⟩:=bS h
  refine oq 130 (str r4) rfl (cP (uB hr4)) ?_
  obtain⟨e5,he5,h⟩:=bS h
  refine oq 146 (.hp 1 0 [] 1 (0+Int.toNat x3.2.1) 0) rfl (al rfl rfl rfl (cp (f:=str) (xs:=x3.2.2) rfl rfl rfl he5)) ?_
  refine o0 162 rfl rfl (et rfl rfl (dG (path:=[]) (pl:=true) (e':=str r4) (es2':=(bM x3.2.2 x3.2.1 r4).map str) rfl (ba rfl) rfl rfl rfl aE (bU (f:=str) (xs:=x3.2.2) he5) rfl rfl rfl (gD (f:=str) (xs:=x3.2.2) (y:=r4)) cM 0 rfl)) ?_
  try rw[←fK (f:=str) (xs:=x3.2.2) (i:=x3.2.1) (z:=r4)]
  refine cq 12 [1,5] [I (ac (x3.1+1)),I (ac (x3.2.1+1))] 258 ?_
  refine cY ?_
  exact rf [0,1,5] [1] (ih _ _ h hr hn :)
 ·refine aq 1 ?_
  exact rf [1] [1] (hn _ (an h) :) (hk:=hK)
theorem YY (a_7:List ae)(k_8:Int)(r:Int×(List ae))(h:xJ a_7 k_8=some r):br M2 Tryz.f51 [true,false] 1 (Fp (a_7,k_8)) (Fq r):=by
 show Run _ _ (UA (a_7,k_8) r) [.code UB] _
 refine rI 20 [(0,.hs 1 0 [] 1 0 (a_7.map str).length),(1,I k_8)] [(1,some ⟨0,1,a_7.map str⟩)] 2 ?_
 unfold xJ at h
 refine cq 10 [5] [I (0)] 34 ?_
 obtain⟨y6,hy6,hy61,hy62⟩:=bJ h
 refine bO rfl ?_
 refine rf [0,1,5] [1] (PC a_7 k_8 rfl (k_8,0,a_7) _ hy6 (fun r' e st hq=>by rw[hy61 r' e] at hq;exact hq) fun u6 hu=>?_)
 replace h:=hy62 u6 hu
 refine cq 5 [4] [I u6.1] 34 ?_
 obtain⟨g7,h⟩:=gG h
 obtain rfl:=sI h
 exact b8 rfl ⟨_,fin (vs:=[I u6.1]) rfl (eV (ba rfl) dU) rfl (jq rfl (ko (f:=str) (xs:=u6.2) (by simpa using g7) rfl) (cu eN)),qi eH⟩
theorem KD {G:b7}:bZ G 51 vV:=gT 2 1 (aO xK bv) cf Tryz.func51 (fun a r h=>YY a.1 a.2 r h)
def xF:((List Condition)×Int)→List V:=cA (o9 4 aj) (oA I)
def xG (r:Int×(List Condition)):V×List V:=(I r.1,[.usl 4 (r.2.map aj)])
noncomputable def xH (cG:((List Condition)×Int)→Option (Int×(List Condition))):Ent:=bi [true,false] xF xG cG
theorem QL (cG:((List Condition)×Int)→Option (Int×(List Condition))){x}{r}(h:cG x=some r):(xH cG).F (xF x)=some (xG r):=aJ (aN (fu mo) (aK bc)) h
noncomputable def Cu :=xH (aL lR)
theorem aeh {a_6:List Condition}{k_7:Int}{r}(h:RI a_6 k_7=some r):Cu.F (xF (a_6,k_7))=some (xG r):=QL (aL lR) h
noncomputable def Ul :=aH Tryz.f106
noncomputable def MZ (cG:((List Condition)×Int)→Option (Int×(List Condition))):Env:=ce [(105,sa),(106,(xH cG))]
def Uk (cG:((List Condition)×Int)→Option (Int×(List Condition)))(x:(List Condition)×Int)(r:Int×(List Condition)):St→Prop:=QF (MZ cG) Tryz.f106 [true,false] (xF x) (xG r)
theorem Pz (cG:((List Condition)×Int)→Option (Int×(List Condition)))(a_6:List Condition)(k_7:Int):cj (MZ cG) 1 (Uk cG (a_6,k_7)) (cL (cL (cR (cL (cR Ul))))) 0 (mH cG a_6 k_7) (fun u=>(sT 42 [(1,I u.1)] [⟨0,4,u.2.map aj⟩] 2)) fun x3=>(sT 42 [(0,.hs 1 0 [] 4 0 (x3.2.2.map aj).length),(1,I x3.1),(5,I x3.2.1)] [⟨0,4,x3.2.2.map aj⟩] 2):=ef (Aw cG a_6 k_7) fun {Q K} hK self ih x3 y h hr hn=>by
 unfold kv at h
 refine cq 5 [6,7] [I x3.2.1,.hs 1 0 [] 4 0 (x3.2.2.map aj).length] 34 ?_
 refine oq 50 (I (len x3.2.2)) rfl (bw rfl rfl rfl (nG (f:=aj) (xs:=x3.2.2) rfl rfl)) ?_
 refine cq 2 [9] [B (decide (x3.2.1<(len x3.2.2)))] 66 ?_
 refine sq h ?_ ?_<;>intro h
 ·refine aq 1 ?_
  refine cq 7 [12,13,14] [.hs 1 0 [] 4 0 (x3.2.2.map aj).length,I x3.2.1,I x3.1] 114 ?_
  obtain⟨e4,he4,h⟩:=bS h
  refine oq 130 (.hp 1 0 [] 4 (0+Int.toNat x3.2.1) 0) rfl (al rfl rfl rfl (cp (f:=aj) (xs:=x3.2.2) rfl rfl rfl he4)) ?_
  refine cq 1 [16] [.hp 1 0 [] 4 (0+Int.toNat x3.2.1) 0] 146 ?_
  refine o0 162 rfl rfl (et rfl rfl (dG (path:=[]) (pl:=true) (e':=.agg [I x3.1,str e4.Name,I e4.Day,.usl 4 (e4.Parts.map aj)]) (es2':=(bM x3.2.2 x3.2.1 (Condition.mk x3.1 e4.Name e4.Day e4.Parts)).map aj) rfl (ba rfl) rfl rfl rfl aE (mq (f:=aj) (xs:=x3.2.2) (dM e4) he4) rfl rfl rfl (Eq (f:=aj) (xs:=x3.2.2) (dM (Condition.mk x3.1 e4.Name e4.Day e4.Parts))) cM 0 rfl)) ?_
  try rw[←fK (f:=aj) (xs:=x3.2.2) (i:=x3.2.1) (z:=(Condition.mk x3.1 e4.Name e4.Day e4.Parts))]
  refine cq 12 [1,19,20,21] [I (ac (x3.1+1)),.hs 1 0 [] 4 0 ((bM x3.2.2 x3.2.1 (Condition.mk x3.1 e4.Name e4.Day e4.Parts)).map aj).length,I x3.2.1,I (ac (x3.1+1))] 258 ?_
  obtain⟨r5,hr5,h⟩:=bS h
  refine oq 274 (str r5) rfl (cP (uB hr5)) ?_
  obtain⟨e6,he6,h⟩:=bS h
  refine oq 290 (.hp 1 0 [] 4 (0+Int.toNat x3.2.1) 0) rfl (al rfl rfl rfl (cp (f:=aj) (xs:=(bM x3.2.2 x3.2.1 (Condition.mk x3.1 e4.Name e4.Day e4.Parts))) rfl rfl rfl he6)) ?_
  refine cq 1 [24] [.hp 1 0 [] 4 (0+Int.toNat x3.2.1) 1] 306 ?_
  obtain⟨rw7,hrw7,h⟩:=lJ h
  refine o0 322 rfl rfl (et rfl rfl (dG (path:=[]) (pl:=true) (e':=.agg [I e6.Op,str r5,I e6.Day,.usl 4 (e6.Parts.map aj)]) (es2':=(rw7).map aj) rfl (ba rfl) rfl rfl rfl aE (mq (f:=aj) (xs:=(bM x3.2.2 x3.2.1 (Condition.mk x3.1 e4.Name e4.Day e4.Parts))) (dM e6) he6) rfl rfl rfl (zt (f:=aj) (xs:=(bM x3.2.2 x3.2.1 (Condition.mk x3.1 e4.Name e4.Day e4.Parts))) (dM (Condition.mk e6.Op r5 e6.Day e6.Parts)) hrw7) cM 0 rfl)) ?_
  try rw[←eE hrw7 (f:=aj) (xs:=(bM x3.2.2 x3.2.1 (Condition.mk x3.1 e4.Name e4.Day e4.Parts)))]
  refine cq 12 [1,27,28,29] [I (ac ((ac (x3.1+1))+1)),.hs 1 0 [] 4 0 (rw7.map aj).length,I x3.2.1,I (ac ((ac (x3.1+1))+1))] 418 ?_
  obtain⟨e9,he9,h⟩:=bS h
  refine oq 434 (.hp 1 0 [] 4 (0+Int.toNat x3.2.1) 0) rfl (al rfl rfl rfl (cp (f:=aj) (xs:=rw7) rfl rfl rfl he9)) ?_
  refine cq 1 [31] [.hp 1 0 [] 4 (0+Int.toNat x3.2.1) 2] 450 ?_
  obtain⟨rw10,hrw10,h⟩:=lJ h
  refine o0 466 rfl rfl (et rfl rfl (dG (path:=[]) (pl:=true) (e':=.agg [I e9.Op,str e9.Name,I (ac ((ac (x3.1+1))+1)),.usl 4 (e9.Parts.map aj)]) (es2':=(rw10).map aj) rfl (ba rfl) rfl rfl rfl aE (mq (f:=aj) (xs:=rw7) (dM e9) he9) rfl rfl rfl (zt (f:=aj) (xs:=rw7) (dM (Condition.mk e9.Op e9.Name (ac ((ac (x3.1+1))+1)) e9.Parts)) hrw10) cM 0 rfl)) ?_
  try rw[←eE hrw10 (f:=aj) (xs:=rw7)]
  refine cq 10 [1,34,35] [I (ac ((ac ((ac (x3.1+1))+1))+1)),.hs 1 0 [] 4 0 (rw10.map aj).length,I x3.2.1] 546 ?_
  obtain⟨e13,he13,h⟩:=bS h
  refine oq 562 (.hp 1 0 [] 4 (0+Int.toNat x3.2.1) 0) rfl (al rfl rfl rfl (cp (f:=aj) (xs:=rw10) rfl rfl rfl he13)) ?_
  refine cq 1 [37] [.hp 1 0 [] 4 (0+Int.toNat x3.2.1) 3] 578 ?_
  refine oq 594 (.hs 1 0 [((0+Int.toNat x3.2.1),3)] 4 0 (e13.Parts.map aj).length) rfl (aX rfl (gk (path:=[]) rfl rfl rfl aE (mq (f:=aj) (xs:=rw10) (dM e13) he13) rfl rfl rfl)) ?_
  refine cq 1 [39] [I (ac ((ac ((ac (x3.1+1))+1))+1))] 610 ?_
  obtain⟨r14,hr14,h⟩:=bS h
  obtain⟨g15,h⟩:=gG h
  obtain⟨rw16,hrw16,h⟩:=lJ h
  refine oq 626 (I r14.1) rfl (bG rfl rfl (bX rfl rfl rfl (iC (iH rfl (eO (path:=[((0+Int.toNat x3.2.1),3)]) rfl rfl (eI (mq (f:=aj) (xs:=rw10) (dM e13) he13) rfl aE) rfl)) (bg (bT rfl) cX)) (QL cG hr14) (.inr rfl) (gI rfl rfl rfl (D6 (eI (mq (f:=aj) (xs:=rw10) (dM e13) he13) rfl aE) (eA (f:=aj) (xs:=e13.Parts) (ys:=r14.2) g15).symm (Es (mq (f:=aj) (xs:=rw10) (dM e13) he13) rfl cM (rfl:(_:V)=.agg [I e13.Op,str e13.Name,I e13.Day,.usl 4 (r14.2.map aj)]) (zt (f:=aj) (xs:=rw10) (dM (Condition.mk e13.Op e13.Name e13.Day r14.2)) hrw16))) dF) rfl rfl rfl)) ?_
  try rw[eA (f:=aj) (xs:=e13.Parts) (ys:=r14.2) g15]
  try rw[←eE hrw16 (f:=aj) (xs:=rw10)]
  refine cq 8 [1,5] [I r14.1,I (ac (x3.2.1+1))] 690 ?_
  refine cY ?_
  exact rf [0,1,5] [1] (ih _ _ h hr hn :)
 ·refine aq 1 ?_
  exact rf [1] [1] (hn _ (an h) :) (hk:=hK)
theorem YS (cG:((List Condition)×Int)→Option (Int×(List Condition)))(a_6:List Condition)(k_7:Int)(r:Int×(List Condition))(h:uu cG a_6 k_7=some r):br (MZ cG) Tryz.f106 [true,false] 1 (xF (a_6,k_7)) (xG r):=by
 show Run _ _ (Uk cG (a_6,k_7) r) [.code Ul] _
 refine rI 42 [(0,.hs 1 0 [] 4 0 (a_6.map aj).length),(1,I k_7)] [(1,some ⟨0,4,a_6.map aj⟩)] 2 ?_
 unfold uu at h
 refine cq 10 [5] [I (0)] 34 ?_
 obtain⟨y20,hy20,hy201,hy202⟩:=bJ h
 refine bO rfl ?_
 refine rf [0,1,5] [1] (Pz cG a_6 k_7 rfl (k_7,0,a_6) _ hy20 (fun r' e st hq=>by rw[hy201 r' e] at hq;exact hq) fun u20 hu=>?_)
 replace h:=hy202 u20 hu
 refine cq 5 [4] [I u20.1] 34 ?_
 obtain⟨g21,h⟩:=gG h
 obtain rfl:=sI h
 exact b8 rfl ⟨_,fin (vs:=[I u20.1]) rfl (eV (ba rfl) dU) rfl (jq rfl (ko (f:=aj) (xs:=u20.2) (by simpa using g21) rfl) (cu eN)),qi eH⟩
theorem Um {G:b7}:bZ G 106 Cu:=jM fun cG g_Ffbv=>gT 2 1 (aO xK (aO g_Ffbv bv)) cf Tryz.func106 (fun a r h=>YS cG a.1 a.2 r h)
def Fb:((List Clause)×Int)→List V:=cA (o9 12 ak) (oA I)
def Fc (r:Int×(List Clause)):V×List V:=(I r.1,[.usl 12 (r.2.map ak)])
noncomputable def Ct :=bi [true,false] Fb Fc fun x=>Cr x.1 x.2
theorem aeg {a_7:List Clause}{k_8:Int}{r}(h:Cr a_7 k_8=some r):Ct.F (Fb (a_7,k_8))=some (Fc r):=aJ (aN (fu tu) (aK bc)) h
noncomputable def Ui :=aH Tryz.f52
noncomputable def MY :=ce [(105,sa),(106,Cu)]
def Uh (x:(List Clause)×Int)(r:Int×(List Clause)):St→Prop:=QF MY Tryz.f52 [true,false] (Fb x) (Fc r)
theorem Py (a_7:List Clause)(k_8:Int):cj MY 1 (Uh (a_7,k_8)) (cL (cL (cR (cL (cR Ui))))) 0 (oc a_7 k_8) (fun u=>(sT 105 [(1,I u.1)] [⟨0,12,u.2.map ak⟩] 2)) fun x3=>(sT 105 [(0,.hs 1 0 [] 12 0 (x3.2.2.map ak).length),(1,I x3.1),(5,I x3.2.1)] [⟨0,12,x3.2.2.map ak⟩] 2):=ef (Av a_7 k_8) fun {Q K} hK self ih x3 y h hr hn=>by
 unfold lQ at h
 refine cq 5 [6,7] [I x3.2.1,.hs 1 0 [] 12 0 (x3.2.2.map ak).length] 34 ?_
 refine oq 50 (I (len x3.2.2)) rfl (bw rfl rfl rfl (nG (f:=ak) (xs:=x3.2.2) rfl rfl)) ?_
 refine cq 2 [9] [B (decide (x3.2.1<(len x3.2.2)))] 66 ?_
 refine sq h ?_ ?_<;>intro h
 ·refine aq 1 ?_
  refine cq 7 [12,13,14] [.hs 1 0 [] 12 0 (x3.2.2.map ak).length,I x3.2.1,I x3.1] 114 ?_
  obtain⟨r4,hr4,h⟩:=bS h
  refine oq 130 (str r4) rfl (cP (uB hr4)) ?_
  obtain⟨e5,he5,h⟩:=bS h
  refine oq 146 (.hp 1 0 [] 12 (0+Int.toNat x3.2.1) 0) rfl (al rfl rfl rfl (cp (f:=ak) (xs:=x3.2.2) rfl rfl rfl he5)) ?_
  refine cq 1 [17] [.hp 1 0 [] 12 (0+Int.toNat x3.2.1) 0] 162 ?_
  refine o0 178 rfl rfl (et rfl rfl (dG (path:=[]) (pl:=true) (e':=.agg [str r4,I e5.Kind,I e5.Party,str e5.Action,I e5.Other,I e5.Amount,I e5.When.Op,str e5.When.Name,I e5.When.Day,.usl 4 (e5.When.Parts.map aj),I e5.Within,str e5.Repair]) (es2':=(bM x3.2.2 x3.2.1 (Clause.mk r4 e5.Kind e5.Party e5.Action e5.Other e5.Amount e5.When e5.Within e5.Repair)).map ak) rfl (ba rfl) rfl rfl rfl aE (bU (f:=ak) (xs:=x3.2.2) he5) rfl rfl rfl (gD (f:=ak) (xs:=x3.2.2) (y:=(Clause.mk r4 e5.Kind e5.Party e5.Action e5.Other e5.Amount e5.When e5.Within e5.Repair))) cM 0 rfl)) ?_
  try rw[←fK (f:=ak) (xs:=x3.2.2) (i:=x3.2.1) (z:=(Clause.mk r4 e5.Kind e5.Party e5.Action e5.Other e5.Amount e5.When e5.Within e5.Repair))]
  refine cq 12 [1,20,21,22] [I (ac (x3.1+1)),.hs 1 0 [] 12 0 ((bM x3.2.2 x3.2.1 (Clause.mk r4 e5.Kind e5.Party e5.Action e5.Other e5.Amount e5.When e5.Within e5.Repair)).map ak).length,I x3.2.1,I (ac (x3.1+1))] 274 ?_
  obtain⟨e6,he6,h⟩:=bS h
  refine oq 290 (.hp 1 0 [] 12 (0+Int.toNat x3.2.1) 0) rfl (al rfl rfl rfl (cp (f:=ak) (xs:=(bM x3.2.2 x3.2.1 (Clause.mk r4 e5.Kind e5.Party e5.Action e5.Other e5.Amount e5.When e5.Within e5.Repair))) rfl rfl rfl he6)) ?_
  refine cq 1 [24] [.hp 1 0 [] 12 (0+Int.toNat x3.2.1) 1] 306 ?_
  obtain⟨rw7,hrw7,h⟩:=lJ h
  refine o0 322 rfl rfl (et rfl rfl (dG (path:=[]) (pl:=true) (e':=.agg [str e6.Id,I (ac (x3.1+1)),I e6.Party,str e6.Action,I e6.Other,I e6.Amount,I e6.When.Op,str e6.When.Name,I e6.When.Day,.usl 4 (e6.When.Parts.map aj),I e6.Within,str e6.Repair]) (es2':=(rw7).map ak) rfl (ba rfl) rfl rfl rfl aE (bU (f:=ak) (xs:=(bM x3.2.2 x3.2.1 (Clause.mk r4 e5.Kind e5.Party e5.Action e5.Other e5.Amount e5.When e5.Within e5.Repair))) he6) rfl rfl rfl (fM (f:=ak) (xs:=(bM x3.2.2 x3.2.1 (Clause.mk r4 e5.Kind e5.Party e5.Action e5.Other e5.Amount e5.When e5.Within e5.Repair))) (y:=(Clause.mk e6.Id (ac (x3.1+1)) e6.Party e6.Action e6.Other e6.Amount e6.When e6.Within e6.Repair)) hrw7) cM 0 rfl)) ?_
  try rw[←eE hrw7 (f:=ak) (xs:=(bM x3.2.2 x3.2.1 (Clause.mk r4 e5.Kind e5.Party e5.Action e5.Other e5.Amount e5.When e5.Within e5.Repair)))]
  refine cq 12 [1,27,28,29] [I (ac ((ac (x3.1+1))+1)),.hs 1 0 [] 12 0 (rw7.map ak).length,I x3.2.1,I (ac ((ac (x3.1+1))+1))] 418 ?_
  obtain⟨e9,he9,h⟩:=bS h
  refine oq 434 (.hp 1 0 [] 12 (0+Int.toNat x3.2.1) 0) rfl (al rfl rfl rfl (cp (f:=ak) (xs:=rw7) rfl rfl rfl he9)) ?_
  refine cq 1 [31] [.hp 1 0 [] 12 (0+Int.toNat x3.2.1) 2] 450 ?_
  obtain⟨rw10,hrw10,h⟩:=lJ h
  refine o0 466 rfl rfl (et rfl rfl (dG (path:=[]) (pl:=true) (e':=.agg [str e9.Id,I e9.Kind,I (ac ((ac (x3.1+1))+1)),str e9.Action,I e9.Other,I e9.Amount,I e9.When.Op,str e9.When.Name,I e9.When.Day,.usl 4 (e9.When.Parts.map aj),I e9.Within,str e9.Repair]) (es2':=(rw10).map ak) rfl (ba rfl) rfl rfl rfl aE (bU (f:=ak) (xs:=rw7) he9) rfl rfl rfl (fM (f:=ak) (xs:=rw7) (y:=(Clause.mk e9.Id e9.Kind (ac ((ac (x3.1+1))+1)) e9.Action e9.Other e9.Amount e9.When e9.Within e9.Repair)) hrw10) cM 0 rfl)) ?_
  try rw[←eE hrw10 (f:=ak) (xs:=rw7)]
  refine cq 12 [1,34,35,36] [I (ac ((ac ((ac (x3.1+1))+1))+1)),.hs 1 0 [] 12 0 (rw10.map ak).length,I x3.2.1,I (ac ((ac ((ac (x3.1+1))+1))+1))] 562 ?_
  obtain⟨r13,hr13,h⟩:=bS h
  refine oq 578 (str r13) rfl (cP (uB hr13)) ?_
  obtain⟨e14,he14,h⟩:=bS h
  refine oq 594 (.hp 1 0 [] 12 (0+Int.toNat x3.2.1) 0) rfl (al rfl rfl rfl (cp (f:=ak) (xs:=rw10) rfl rfl rfl he14)) ?_
  refine cq 1 [39] [.hp 1 0 [] 12 (0+Int.toNat x3.2.1) 3] 610 ?_
  obtain⟨rw15,hrw15,h⟩:=lJ h
  refine o0 626 rfl rfl (et rfl rfl (dG (path:=[]) (pl:=true) (e':=.agg [str e14.Id,I e14.Kind,I e14.Party,str r13,I e14.Other,I e14.Amount,I e14.When.Op,str e14.When.Name,I e14.When.Day,.usl 4 (e14.When.Parts.map aj),I e14.Within,str e14.Repair]) (es2':=(rw15).map ak) rfl (ba rfl) rfl rfl rfl aE (bU (f:=ak) (xs:=rw10) he14) rfl rfl rfl (fM (f:=ak) (xs:=rw10) (y:=(Clause.mk e14.Id e14.Kind e14.Party r13 e14.Other e14.Amount e14.When e14.Within e14.Repair)) hrw15) cM 0 rfl)) ?_
  try rw[←eE hrw15 (f:=ak) (xs:=rw10)]
  refine cq 12 [1,42,43,44] [I (ac ((ac ((ac ((ac (x3.1+1))+1))+1))+1)),.hs 1 0 [] 12 0 (rw15.map ak).length,I x3.2.1,I (ac ((ac ((ac ((ac (x3.1+1))+1))+1))+1))] 722 ?_
  obtain⟨e19,he19,h⟩:=bS h
  refine oq 738 (.hp 1 0 [] 12 (0+Int.toNat x3.2.1) 0) rfl (al rfl rfl rfl (cp (f:=ak) (xs:=rw15) rfl rfl rfl he19)) ?_
  refine cq 1 [46] [.hp 1 0 [] 12 (0+Int.toNat x3.2.1) 4] 754 ?_
  obtain⟨rw20,hrw20,h⟩:=lJ h
  refine o0 770 rfl rfl (et rfl rfl (dG (path:=[]) (pl:=true) (e':=.agg [str e19.Id,I e19.Kind,I e19.Party,str e19.Action,I (ac ((ac ((ac ((ac (x3.1+1))+1))+1))+1)),I e19.Amount,I e19.When.Op,str e19.When.Name,I e19.When.Day,.usl 4 (e19.When.Parts.map aj),I e19.Within,str e19.Repair]) (es2':=(rw20).map ak) rfl (ba rfl) rfl rfl rfl aE (bU (f:=ak) (xs:=rw15) he19) rfl rfl rfl (fM (f:=ak) (xs:=rw15) (y:=(Clause.mk e19.Id e19.Kind e19.Party e19.Action (ac ((ac ((ac ((ac (x3.1+1))+1))+1))+1)) e19.Amount e19.When e19.Within e19.Repair)) hrw20) cM 0 rfl)) ?_
  try rw[←eE hrw20 (f:=ak) (xs:=rw15)]
  refine cq 12 [1,49,50,51] [I (ac ((ac ((ac ((ac ((ac (x3.1+1))+1))+1))+1))+1)),.hs 1 0 [] 12 0 (rw20.map ak).length,I x3.2.1,I (ac ((ac ((ac ((ac ((ac (x3.1+1))+1))+1))+1))+1))] 866 ?_
  obtain⟨e25,he25,h⟩:=bS h
  refine oq 882 (.hp 1 0 [] 12 (0+Int.toNat x3.2.1) 0) rfl (al rfl rfl rfl (cp (f:=ak) (xs:=rw20) rfl rfl rfl he25)) ?_
  refine cq 1 [53] [.hp 1 0 [] 12 (0+Int.toNat x3.2.1) 5] 898 ?_
  obtain⟨rw26,hrw26,h⟩:=lJ h
  refine o0 914 rfl rfl (et rfl rfl (dG (path:=[]) (pl:=true) (e':=.agg [str e25.Id,I e25.Kind,I e25.Party,str e25.Action,I e25.Other,I (ac ((ac ((ac ((ac ((ac (x3.1+1))+1))+1))+1))+1)),I e25.When.Op,str e25.When.Name,I e25.When.Day,.usl 4 (e25.When.Parts.map aj),I e25.Within,str e25.Repair]) (es2':=(rw26).map ak) rfl (ba rfl) rfl rfl rfl aE (bU (f:=ak) (xs:=rw20) he25) rfl rfl rfl (fM (f:=ak) (xs:=rw20) (y:=(Clause.mk e25.Id e25.Kind e25.Party e25.Action e25.Other (ac ((ac ((ac ((ac ((ac (x3.1+1))+1))+1))+1))+1)) e25.When e25.Within e25.Repair)) hrw26) cM 0 rfl)) ?_
  try rw[←eE hrw26 (f:=ak) (xs:=rw20)]
  refine cq 12 [1,56,57,58] [I (ac ((ac ((ac ((ac ((ac ((ac (x3.1+1))+1))+1))+1))+1))+1)),.hs 1 0 [] 12 0 (rw26.map ak).length,I x3.2.1,I (ac ((ac ((ac ((ac ((ac ((ac (x3.1+1))+1))+1))+1))+1))+1))] 1010 ?_
  obtain⟨e32,he32,h⟩:=bS h
  refine oq 1026 (.hp 1 0 [] 12 (0+Int.toNat x3.2.1) 0) rfl (al rfl rfl rfl (cp (f:=ak) (xs:=rw26) rfl rfl rfl he32)) ?_
  refine cq 2 [61] [.hp 1 0 [] 12 (0+Int.toNat x3.2.1) 6] 1058 ?_
  obtain⟨rw33,hrw33,h⟩:=lJ h
  refine o0 1074 rfl rfl (et rfl rfl (dG (path:=[]) (pl:=true) (e':=.agg [str e32.Id,I e32.Kind,I e32.Party,str e32.Action,I e32.Other,I e32.Amount,I (ac ((ac ((ac ((ac ((ac ((ac (x3.1+1))+1))+1))+1))+1))+1)),str e32.When.Name,I e32.When.Day,.usl 4 (e32.When.Parts.map aj),I e32.Within,str e32.Repair]) (es2':=(rw33).map ak) rfl (ba rfl) rfl rfl rfl aE (bU (f:=ak) (xs:=rw26) he32) rfl rfl rfl (fM (f:=ak) (xs:=rw26) (y:=(Clause.mk e32.Id e32.Kind e32.Party e32.Action e32.Other e32.Amount (Condition.mk (ac ((ac ((ac ((ac ((ac ((ac (x3.1+1))+1))+1))+1))+1))+1)) e32.When.Name e32.When.Day e32.When.Parts) e32.Within e32.Repair)) hrw33) cM 0 rfl)) ?_
  try rw[←eE hrw33 (f:=ak) (xs:=rw26)]
  refine cq 12 [1,64,65,66] [I (ac ((ac ((ac ((ac ((ac ((ac ((ac (x3.1+1))+1))+1))+1))+1))+1))+1)),.hs 1 0 [] 12 0 (rw33.map ak).length,I x3.2.1,I (ac ((ac ((ac ((ac ((ac ((ac ((ac (x3.1+1))+1))+1))+1))+1))+1))+1))] 1170 ?_
  obtain⟨r40,hr40,h⟩:=bS h
  refine oq 1186 (str r40) rfl (cP (uB hr40)) ?_
  obtain⟨e41,he41,h⟩:=bS h
  refine oq 1202 (.hp 1 0 [] 12 (0+Int.toNat x3.2.1) 0) rfl (al rfl rfl rfl (cp (f:=ak) (xs:=rw33) rfl rfl rfl he41)) ?_
  refine cq 2 [70] [.hp 1 0 [] 12 (0+Int.toNat x3.2.1) 7] 1234 ?_
  obtain⟨rw42,hrw42,h⟩:=lJ h
  refine o0 1250 rfl rfl (et rfl rfl (dG (path:=[]) (pl:=true) (e':=.agg [str e41.Id,I e41.Kind,I e41.Party,str e41.Action,I e41.Other,I e41.Amount,I e41.When.Op,str r40,I e41.When.Day,.usl 4 (e41.When.Parts.map aj),I e41.Within,str e41.Repair]) (es2':=(rw42).map ak) rfl (ba rfl) rfl rfl rfl aE (bU (f:=ak) (xs:=rw33) he41) rfl rfl rfl (fM (f:=ak) (xs:=rw33) (y:=(Clause.mk e41.Id e41.Kind e41.Party e41.Action e41.Other e41.Amount (Condition.mk e41.When.Op r40 e41.When.Day e41.When.Parts) e41.Within e41.Repair)) hrw42) cM 0 rfl)) ?_
  try rw[←eE hrw42 (f:=ak) (xs:=rw33)]
  refine cq 12 [1,73,74,75] [I (ac ((ac ((ac ((ac ((ac ((ac ((ac ((ac (x3.1+1))+1))+1))+1))+1))+1))+1))+1)),.hs 1 0 [] 12 0 (rw42.map ak).length,I x3.2.1,I (ac ((ac ((ac ((ac ((ac ((ac ((ac ((ac (x3.1+1))+1))+1))+1))+1))+1))+1))+1))] 1346 ?_
  obtain⟨e50,he50,h⟩:=bS h
  refine oq 1362 (.hp 1 0 [] 12 (0+Int.toNat x3.2.1) 0) rfl (al rfl rfl rfl (cp (f:=ak) (xs:=rw42) rfl rfl rfl he50)) ?_
  refine cq 2 [78] [.hp 1 0 [] 12 (0+Int.toNat x3.2.1) 8] 1394 ?_
  obtain⟨rw51,hrw51,h⟩:=lJ h
  refine o0 1410 rfl rfl (et rfl rfl (dG (path:=[]) (pl:=true) (e':=.agg [str e50.Id,I e50.Kind,I e50.Party,str e50.Action,I e50.Other,I e50.Amount,I e50.When.Op,str e50.When.Name,I (ac ((ac ((ac ((ac ((ac ((ac ((ac ((ac (x3.1+1))+1))+1))+1))+1))+1))+1))+1)),.usl 4 (e50.When.Parts.map aj),I e50.Within,str e50.Repair]) (es2':=(rw51).map ak) rfl (ba rfl) rfl rfl rfl aE (bU (f:=ak) (xs:=rw42) he50) rfl rfl rfl (fM (f:=ak) (xs:=rw42) (y:=(Clause.mk e50.Id e50.Kind e50.Party e50.Action e50.Other e50.Amount (Condition.mk e50.When.Op e50.When.Name (ac ((ac ((ac ((ac ((ac ((ac ((ac ((ac (x3.1+1))+1))+1))+1))+1))+1))+1))+1)) e50.When.Parts) e50.Within e50.Repair)) hrw51) cM 0 rfl)) ?_
  try rw[←eE hrw51 (f:=ak) (xs:=rw42)]
  refine cq 11 [1,81,82] [I (ac ((ac ((ac ((ac ((ac ((ac ((ac ((ac ((ac (x3.1+1))+1))+1))+1))+1))+1))+1))+1))+1)),.hs 1 0 [] 12 0 (rw51.map ak).length,I x3.2.1] 1490 ?_
  obtain⟨e60,he60,h⟩:=bS h
  refine oq 1506 (.hp 1 0 [] 12 (0+Int.toNat x3.2.1) 0) rfl (al rfl rfl rfl (cp (f:=ak) (xs:=rw51) rfl rfl rfl he60)) ?_
  refine cq 2 [85] [.hp 1 0 [] 12 (0+Int.toNat x3.2.1) 9] 1538 ?_
  refine oq 1554 (.hs 1 0 [((0+Int.toNat x3.2.1),9)] 4 0 (e60.When.Parts.map aj).length) rfl (aX rfl (gk (path:=[]) rfl rfl rfl aE (bU (f:=ak) (xs:=rw51) he60) rfl rfl rfl)) ?_
  refine cq 1 [87] [I (ac ((ac ((ac ((ac ((ac ((ac ((ac ((ac ((ac (x3.1+1))+1))+1))+1))+1))+1))+1))+1))+1))] 1570 ?_
  obtain⟨r61,hr61,h⟩:=bS h
  obtain⟨g62,h⟩:=gG h
  obtain⟨rw63,hrw63,h⟩:=lJ h
  refine oq 1586 (I r61.1) rfl (bG rfl rfl (bX rfl rfl rfl (iC (iH rfl (eO (path:=[((0+Int.toNat x3.2.1),9)]) rfl rfl (eI (bU (f:=ak) (xs:=rw51) he60) rfl aE) rfl)) (bg (bT rfl) cX)) (aeh hr61) (.inr rfl) (gI rfl rfl rfl (D6 (eI (bU (f:=ak) (xs:=rw51) he60) rfl aE) (eA (f:=aj) (xs:=e60.When.Parts) (ys:=r61.2) g62).symm (Es (bU (f:=ak) (xs:=rw51) he60) rfl cM (rfl:(_:V)=.agg [str e60.Id,I e60.Kind,I e60.Party,str e60.Action,I e60.Other,I e60.Amount,I e60.When.Op,str e60.When.Name,I e60.When.Day,.usl 4 (r61.2.map aj),I e60.Within,str e60.Repair]) (fM (f:=ak) (xs:=rw51) (y:=(Clause.mk e60.Id e60.Kind e60.Party e60.Action e60.Other e60.Amount (Condition.mk e60.When.Op e60.When.Name e60.When.Day r61.2) e60.Within e60.Repair)) hrw63))) dF) rfl rfl rfl)) ?_
  try rw[eA (f:=aj) (xs:=e60.When.Parts) (ys:=r61.2) g62]
  try rw[←eE hrw63 (f:=ak) (xs:=rw51)]
  refine cq 7 [1,89,90,91] [I r61.1,.hs 1 0 [] 12 0 (rw63.map ak).length,I x3.2.1,I r61.1] 1650 ?_
  obtain⟨e73,he73,h⟩:=bS h
  refine oq 1666 (.hp 1 0 [] 12 (0+Int.toNat x3.2.1) 0) rfl (al rfl rfl rfl (cp (f:=ak) (xs:=rw63) rfl rfl rfl he73)) ?_
  refine cq 1 [93] [.hp 1 0 [] 12 (0+Int.toNat x3.2.1) 10] 1682 ?_
  obtain⟨rw74,hrw74,h⟩:=lJ h
  refine o0 1698 rfl rfl (et rfl rfl (dG (path:=[]) (pl:=true) (e':=.agg [str e73.Id,I e73.Kind,I e73.Party,str e73.Action,I e73.Other,I e73.Amount,I e73.When.Op,str e73.When.Name,I e73.When.Day,.usl 4 (e73.When.Parts.map aj),I r61.1,str e73.Repair]) (es2':=(rw74).map ak) rfl (ba rfl) rfl rfl rfl aE (bU (f:=ak) (xs:=rw63) he73) rfl rfl rfl (fM (f:=ak) (xs:=rw63) (y:=(Clause.mk e73.Id e73.Kind e73.Party e73.Action e73.Other e73.Amount e73.When r61.1 e73.Repair)) hrw74) cM 1 rfl)) ?_
  try rw[←eE hrw74 (f:=ak) (xs:=rw63)]
  refine cq 12 [1,96,97,98] [I (ac (r61.1+1)),.hs 1 0 [] 12 0 (rw74.map ak).length,I x3.2.1,I (ac (r61.1+1))] 1794 ?_
  obtain⟨r85,hr85,h⟩:=bS h
  refine oq 1810 (str r85) rfl (cP (uB hr85)) ?_
  obtain⟨e86,he86,h⟩:=bS h
  refine oq 1826 (.hp 1 0 [] 12 (0+Int.toNat x3.2.1) 0) rfl (al rfl rfl rfl (cp (f:=ak) (xs:=rw74) rfl rfl rfl he86)) ?_
  refine cq 1 [101] [.hp 1 0 [] 12 (0+Int.toNat x3.2.1) 11] 1842 ?_
  obtain⟨rw87,hrw87,h⟩:=lJ h
  refine o0 1858 rfl rfl (et rfl rfl (dG (path:=[]) (pl:=true) (e':=.agg [str e86.Id,I e86.Kind,I e86.Party,str e86.Action,I e86.Other,I e86.Amount,I e86.When.Op,str e86.When.Name,I e86.When.Day,.usl 4 (e86.When.Parts.map aj),I e86.Within,str r85]) (es2':=(rw87).map ak) rfl (ba rfl) rfl rfl rfl aE (bU (f:=ak) (xs:=rw74) he86) rfl rfl rfl (fM (f:=ak) (xs:=rw74) (y:=(Clause.mk e86.Id e86.Kind e86.Party e86.Action e86.Other e86.Amount e86.When e86.Within r85)) hrw87) cM 1 rfl)) ?_
  try rw[←eE hrw87 (f:=ak) (xs:=rw74)]
  refine cq 12 [1,5] [I (ac ((ac (r61.1+1))+1)),I (ac (x3.2.1+1))] 1954 ?_
  refine cY ?_
  exact rf [0,1,5] [1] (ih _ _ h hr hn :)
 ·refine aq 1 ?_
  exact rf [1] [1] (hn _ (an h) :) (hk:=hK)
theorem YQ (a_7:List Clause)(k_8:Int)(r:Int×(List Clause))(h:Cr a_7 k_8=some r):br MY Tryz.f52 [true,false] 1 (Fb (a_7,k_8)) (Fc r):=by
 show Run _ _ (Uh (a_7,k_8) r) [.code Ui] _
 refine rI 105 [(0,.hs 1 0 [] 12 0 (a_7.map ak).length),(1,I k_8)] [(1,some ⟨0,12,a_7.map ak⟩)] 2 ?_
 unfold Cr at h
 refine cq 10 [5] [I (0)] 34 ?_
 obtain⟨y99,hy99,hy991,hy992⟩:=bJ h
 refine bO rfl ?_
 refine rf [0,1,5] [1] (Py a_7 k_8 rfl (k_8,0,a_7) _ hy99 (fun r' e st hq=>by rw[hy991 r' e] at hq;exact hq) fun u99 hu=>?_)
 replace h:=hy992 u99 hu
 refine cq 5 [4] [I u99.1] 34 ?_
 obtain⟨g100,h⟩:=gG h
 obtain rfl:=sI h
 exact b8 rfl ⟨_,fin (vs:=[I u99.1]) rfl (eV (ba rfl) dU) rfl (jq rfl (ko (f:=ak) (xs:=u99.2) (by simpa using g100) rfl) (cu eN)),qi eH⟩
theorem Uj {G:b7}:bZ G 52 Ct:=gT 2 1 (aO xK (aO Um bv)) cf Tryz.func52 (fun a r h=>YQ a.1 a.2 r h)
def Ff:(Contract×Int)→List V:=cA rj (oA I)
def Fg (r:Int):V×List V:=(I r,[.dead])
noncomputable def Cx :=bi [true,false] Ff Fg fun x=>Cw x.1 x.2
theorem aei {a_7:Contract}{k_8:Int}{r}(h:Cw a_7 k_8=some r):Cx.F (Ff (a_7,k_8))=some (Fg r):=aJ (aN Ak (aK bc)) h
noncomputable def aek :=aH Tryz.f18
noncomputable def Uo :=ce [(51,vV),(52,Ct)]
def aej (x:Contract×Int)(r:Int):St→Prop:=QF Uo Tryz.f18 [true,false] (Ff x) (Fg r)
theorem YT (a_7:Contract)(k_8:Int)(r:Int)(h:Cw a_7 k_8=some r):br Uo Tryz.f18 [true,false] 2 (Ff (a_7,k_8)) (Fg r):=by
 show Run _ _ (aej (a_7,k_8) r) [.code aek] _
 refine rI 14 [(0,.agg [.hs 1 0 [] 1 0 (a_7.Parties.map str).length,.hs 2 0 [] 12 0 (a_7.Clauses.map ak).length]),(1,I k_8)] [(1,some ⟨0,1,a_7.Parties.map str⟩),(2,some ⟨0,12,a_7.Clauses.map ak⟩)] 3 ?_
 unfold Cw at h
 refine aq 2 ?_
 refine oq 19 (.hp 3 0 [] 2 0 0) rfl (Xu rfl (nQ (cC (dx rfl rfl) (cC (dx rfl rfl) nR))) rfl) ?_
 refine cq 7 [6,7] [.hs 3 0 [(0,0)] 1 0 (a_7.Parties.map str).length,I k_8] 83 ?_
 obtain⟨r3,hr3,h⟩:=bS h
 obtain⟨g4,h⟩:=gG h
 refine oq 99 (I r3.1) rfl (bG rfl rfl (bX rfl rfl rfl (iC (iH rfl (eO (path:=[(0,0)]) rfl rfl (eI rfl rfl aE) rfl)) (bg (bT rfl) cX)) (Uz hr3) (.inr rfl) (gI rfl rfl rfl (D6 (eI rfl rfl aE) (eA (f:=str) (xs:=a_7.Parties) (ys:=r3.2) g4).symm (Es rfl rfl cM (rfl:(_:V)=.agg [.usl 1 (r3.2.map str),.usl 12 (a_7.Clauses.map ak)]) rfl)) dF) rfl rfl rfl)) ?_
 try rw[eA (f:=str) (xs:=a_7.Parties) (ys:=r3.2) g4]
 refine ck 7 [10,11] [1] [] [] [.hs 3 1 [(0,1)] 12 0 (a_7.Clauses.map ak).length,I r3.1] [] 163 (by kernel_rfl) ?_
 obtain⟨r5,hr5,h⟩:=bS h
 obtain⟨g6,h⟩:=gG h
 refine oq 179 (I r5.1) rfl (bG rfl rfl (bX rfl rfl rfl (iC (iH rfl (eO (path:=[(0,1)]) rfl rfl (eI rfl rfl aE) rfl)) (bg (bT rfl) cX)) (aeg hr5) (.inr rfl) (gI rfl rfl rfl (D6 (eI rfl rfl aE) (eA (f:=ak) (xs:=a_7.Clauses) (ys:=r5.2) g6).symm (Es rfl rfl cM (rfl:(_:V)=.agg [.usl 1 (r3.2.map str),.usl 12 (r5.2.map ak)]) rfl)) dF) rfl rfl rfl)) ?_
 try rw[eA (f:=ak) (xs:=a_7.Clauses) (ys:=r5.2) g6]
 refine cq 7 [4] [I r5.1] 227 ?_
 obtain rfl:=sI h
 exact b8 rfl ⟨_,fin (vs:=[I r5.1]) rfl (eV (ba rfl) dU) rfl (ags (mc (lK rfl) (mc (lK rfl) mn)) (cu eN)),sJ eH⟩
theorem Uq {G:b7}:bZ G 18 Cx:=gT 2 2 (aO KD (aO Uj bv)) cf Tryz.func18 (fun a r h=>YT a.1 a.2 r h)
def Fh:((List Duty)×Int)→List V:=cA (o9 4 ah) (oA I)
def Fi (r:Int×(List Duty)):V×List V:=(I r.1,[.usl 4 (r.2.map ah)])
noncomputable def Cz :=bi [true,false] Fh Fi fun x=>Cy x.1 x.2
theorem ael {a_6:List Duty}{k_7:Int}{r}(h:Cy a_6 k_7=some r):Cz.F (Fh (a_6,k_7))=some (Fi r):=aJ (aN (fu eh) (aK bc)) h
noncomputable def Us :=aH Tryz.f73
noncomputable def M0 :=ce []
def Ur (x:(List Duty)×Int)(r:Int×(List Duty)):St→Prop:=QF M0 Tryz.f73 [true,false] (Fh x) (Fi r)
theorem PA (a_6:List Duty)(k_7:Int):cj M0 1 (Ur (a_6,k_7)) (cL (cL (cR (cL (cR Us))))) 0 (uw a_6 k_7) (fun u=>(sT 41 [(1,I u.1)] [⟨0,4,u.2.map ah⟩] 2)) fun x3=>(sT 41 [(0,.hs 1 0 [] 4 0 (x3.2.2.map ah).length),(1,I x3.1),(5,I x3.2.1)] [⟨0,4,x3.2.2.map ah⟩] 2):=ef (Ay a_6 k_7) fun {Q K} hK self ih x3 y h hr hn=>by
 unfold lS at h
 refine cq 5 [6,7] [I x3.2.1,.hs 1 0 [] 4 0 (x3.2.2.map ah).length] 34 ?_
 refine oq 50 (I (len x3.2.2)) rfl (bw rfl rfl rfl (nG (f:=ah) (xs:=x3.2.2) rfl rfl)) ?_
 refine cq 2 [9] [B (decide (x3.2.1<(len x3.2.2)))] 66 ?_
 refine sq h ?_ ?_<;>intro h
 ·refine aq 1 ?_
  refine cq 7 [12,13,14] [.hs 1 0 [] 4 0 (x3.2.2.map ah).length,I x3.2.1,I x3.1] 114 ?_
  obtain⟨e4,he4,h⟩:=bS h
  refine oq 130 (.hp 1 0 [] 4 (0+Int.toNat x3.2.1) 0) rfl (al rfl rfl rfl (cp (f:=ah) (xs:=x3.2.2) rfl rfl rfl he4)) ?_
  refine cq 1 [16] [.hp 1 0 [] 4 (0+Int.toNat x3.2.1) 0] 146 ?_
  refine o0 162 rfl rfl (et rfl rfl (dG (path:=[]) (pl:=true) (e':=.agg [I x3.1,I e4.Since,I e4.Due,I e4.Status]) (es2':=(bM x3.2.2 x3.2.1 (Duty.mk x3.1 e4.Since e4.Due e4.Status)).map ah) rfl (ba rfl) rfl rfl rfl aE (bU (f:=ah) (xs:=x3.2.2) he4) rfl rfl rfl (gD (f:=ah) (xs:=x3.2.2) (y:=(Duty.mk x3.1 e4.Since e4.Due e4.Status))) cM 0 rfl)) ?_
  try rw[←fK (f:=ah) (xs:=x3.2.2) (i:=x3.2.1) (z:=(Duty.mk x3.1 e4.Since e4.Due e4.Status))]
  refine cq 12 [1,19,20,21] [I (ac (x3.1+1)),.hs 1 0 [] 4 0 ((bM x3.2.2 x3.2.1 (Duty.mk x3.1 e4.Since e4.Due e4.Status)).map ah).length,I x3.2.1,I (ac (x3.1+1))] 258 ?_
  obtain⟨e5,he5,h⟩:=bS h
  refine oq 274 (.hp 1 0 [] 4 (0+Int.toNat x3.2.1) 0) rfl (al rfl rfl rfl (cp (f:=ah) (xs:=(bM x3.2.2 x3.2.1 (Duty.mk x3.1 e4.Since e4.Due e4.Status))) rfl rfl rfl he5)) ?_
  refine cq 1 [23] [.hp 1 0 [] 4 (0+Int.toNat x3.2.1) 1] 290 ?_
  obtain⟨rw6,hrw6,h⟩:=lJ h
  refine o0 306 rfl rfl (et rfl rfl (dG (path:=[]) (pl:=true) (e':=.agg [I e5.Clause,I (ac (x3.1+1)),I e5.Due,I e5.Status]) (es2':=(rw6).map ah) rfl (ba rfl) rfl rfl rfl aE (bU (f:=ah) (xs:=(bM x3.2.2 x3.2.1 (Duty.mk x3.1 e4.Since e4.Due e4.Status))) he5) rfl rfl rfl (fM (f:=ah) (xs:=(bM x3.2.2 x3.2.1 (Duty.mk x3.1 e4.Since e4.Due e4.Status))) (y:=(Duty.mk e5.Clause (ac (x3.1+1)) e5.Due e5.Status)) hrw6) cM 0 rfl)) ?_
  try rw[←eE hrw6 (f:=ah) (xs:=(bM x3.2.2 x3.2.1 (Duty.mk x3.1 e4.Since e4.Due e4.Status)))]
  refine cq 12 [1,26,27,28] [I (ac ((ac (x3.1+1))+1)),.hs 1 0 [] 4 0 (rw6.map ah).length,I x3.2.1,I (ac ((ac (x3.1+1))+1))] 402 ?_
  obtain⟨e8,he8,h⟩:=bS h
  refine oq 418 (.hp 1 0 [] 4 (0+Int.toNat x3.2.1) 0) rfl (al rfl rfl rfl (cp (f:=ah) (xs:=rw6) rfl rfl rfl he8)) ?_
  refine cq 1 [30] [.hp 1 0 [] 4 (0+Int.toNat x3.2.1) 2] 434 ?_
  obtain⟨rw9,hrw9,h⟩:=lJ h
  refine o0 450 rfl rfl (et rfl rfl (dG (path:=[]) (pl:=true) (e':=.agg [I e8.Clause,I e8.Since,I (ac ((ac (x3.1+1))+1)),I e8.Status]) (es2':=(rw9).map ah) rfl (ba rfl) rfl rfl rfl aE (bU (f:=ah) (xs:=rw6) he8) rfl rfl rfl (fM (f:=ah) (xs:=rw6) (y:=(Duty.mk e8.Clause e8.Since (ac ((ac (x3.1+1))+1)) e8.Status)) hrw9) cM 0 rfl)) ?_
  try rw[←eE hrw9 (f:=ah) (xs:=rw6)]
  refine cq 12 [1,33,34,35] [I (ac ((ac ((ac (x3.1+1))+1))+1)),.hs 1 0 [] 4 0 (rw9.map ah).length,I x3.2.1,I (ac ((ac ((ac (x3.1+1))+1))+1))] 546 ?_
  obtain⟨e12,he12,h⟩:=bS h
  refine oq 562 (.hp 1 0 [] 4 (0+Int.toNat x3.2.1) 0) rfl (al rfl rfl rfl (cp (f:=ah) (xs:=rw9) rfl rfl rfl he12)) ?_
  refine cq 1 [37] [.hp 1 0 [] 4 (0+Int.toNat x3.2.1) 3] 578 ?_
  obtain⟨rw13,hrw13,h⟩:=lJ h
  refine o0 594 rfl rfl (et rfl rfl (dG (path:=[]) (pl:=true) (e':=.agg [I e12.Clause,I e12.Since,I e12.Due,I (ac ((ac ((ac (x3.1+1))+1))+1))]) (es2':=(rw13).map ah) rfl (ba rfl) rfl rfl rfl aE (bU (f:=ah) (xs:=rw9) he12) rfl rfl rfl (fM (f:=ah) (xs:=rw9) (y:=(Duty.mk e12.Clause e12.Since e12.Due (ac ((ac ((ac (x3.1+1))+1))+1)))) hrw13) cM 0 rfl)) ?_
  try rw[←eE hrw13 (f:=ah) (xs:=rw9)]
  refine cq 12 [1,5] [I (ac ((ac ((ac ((ac (x3.1+1))+1))+1))+1)),I (ac (x3.2.1+1))] 690 ?_
  refine cY ?_
  exact rf [0,1,5] [1] (ih _ _ h hr hn :)
 ·refine aq 1 ?_
  exact rf [1] [1] (hn _ (an h) :) (hk:=hK)
theorem YU (a_6:List Duty)(k_7:Int)(r:Int×(List Duty))(h:Cy a_6 k_7=some r):br M0 Tryz.f73 [true,false] 1 (Fh (a_6,k_7)) (Fi r):=by
 show Run _ _ (Ur (a_6,k_7) r) [.code Us] _
 refine rI 41 [(0,.hs 1 0 [] 4 0 (a_6.map ah).length),(1,I k_7)] [(1,some ⟨0,4,a_6.map ah⟩)] 2 ?_
 unfold Cy at h
 refine cq 10 [5] [I (0)] 34 ?_
 obtain⟨y17,hy17,hy171,hy172⟩:=bJ h
 refine bO rfl ?_
 refine rf [0,1,5] [1] (PA a_6 k_7 rfl (k_7,0,a_6) _ hy17 (fun r' e st hq=>by rw[hy171 r' e] at hq;exact hq) fun u17 hu=>?_)
 replace h:=hy172 u17 hu
 refine cq 5 [4] [I u17.1] 34 ?_
 obtain⟨g18,h⟩:=gG h
 obtain rfl:=sI h
 exact b8 rfl ⟨_,fin (vs:=[I u17.1]) rfl (eV (ba rfl) dU) rfl (jq rfl (ko (f:=ah) (xs:=u17.2) (by simpa using g18) rfl) (cu eN)),qi eH⟩
theorem Ut {G:b7}:bZ G 73 Cz:=gT 2 1 bv cf Tryz.func73 (fun a r h=>YU a.1 a.2 r h)
def Fk:((List Int)×Int)→List V:=cA (o9 1 I) (oA I)
def Fl (r:Int×(List Int)):V×List V:=(I r.1,[.usl 1 (r.2.map I)])
noncomputable def vU :=bi [true,false] Fk Fl fun x=>xI x.1 x.2
theorem Uu {a_6:List Int}{k_7:Int}{r}(h:xI a_6 k_7=some r):vU.F (Fk (a_6,k_7))=some (Fl r):=aJ (aN (fu bc) (aK bc)) h
noncomputable def Uw :=aH Tryz.f19
noncomputable def M1 :=ce []
def Uv (x:(List Int)×Int)(r:Int×(List Int)):St→Prop:=QF M1 Tryz.f19 [true,false] (Fk x) (Fl r)
theorem PB (a_6:List Int)(k_7:Int):cj M1 1 (Uv (a_6,k_7)) (cL (cL (cR (cL (cR Uw))))) 0 (uz a_6 k_7) (fun u=>(sT 19 [(1,I u.1)] [⟨0,1,u.2.map I⟩] 2)) fun x3=>(sT 19 [(0,.hs 1 0 [] 1 0 (x3.2.2.map I).length),(1,I x3.1),(5,I x3.2.1)] [⟨0,1,x3.2.2.map I⟩] 2):=ef (Az a_6 k_7) fun {Q K} hK self ih x3 y h hr hn=>by
 unfold lT at h
 refine cq 5 [6,7] [I x3.2.1,.hs 1 0 [] 1 0 (x3.2.2.map I).length] 34 ?_
 refine oq 50 (I (len x3.2.2)) rfl (bw rfl rfl rfl (nG (f:=I) (xs:=x3.2.2) rfl rfl)) ?_
 refine cq 2 [9] [B (decide (x3.2.1<(len x3.2.2)))] 66 ?_
 refine sq h ?_ ?_<;>intro h
 ·refine aq 1 ?_
  refine cq 7 [12,13,14] [.hs 1 0 [] 1 0 (x3.2.2.map I).length,I x3.2.1,I x3.1] 114 ?_
  obtain⟨e4,he4,h⟩:=bS h
  refine oq 130 (.hp 1 0 [] 1 (0+Int.toNat x3.2.1) 0) rfl (al rfl rfl rfl (cp (f:=I) (xs:=x3.2.2) rfl rfl rfl he4)) ?_
  refine o0 146 rfl rfl (et rfl rfl (dG (path:=[]) (pl:=true) (e':=I x3.1) (es2':=(bM x3.2.2 x3.2.1 x3.1).map I) rfl (ba rfl) rfl rfl rfl aE (bU (f:=I) (xs:=x3.2.2) he4) rfl rfl rfl (gD (f:=I) (xs:=x3.2.2) (y:=x3.1)) cM 0 rfl)) ?_
  try rw[←fK (f:=I) (xs:=x3.2.2) (i:=x3.2.1) (z:=x3.1)]
  refine cq 12 [1,5] [I (ac (x3.1+1)),I (ac (x3.2.1+1))] 242 ?_
  refine cY ?_
  exact rf [0,1,5] [1] (ih _ _ h hr hn :)
 ·refine aq 1 ?_
  exact rf [1] [1] (hn _ (an h) :) (hk:=hK)
theorem YV (a_6:List Int)(k_7:Int)(r:Int×(List Int))(h:xI a_6 k_7=some r):br M1 Tryz.f19 [true,false] 1 (Fk (a_6,k_7)) (Fl r):=by
 show Run _ _ (Uv (a_6,k_7) r) [.code Uw] _
 refine rI 19 [(0,.hs 1 0 [] 1 0 (a_6.map I).length),(1,I k_7)] [(1,some ⟨0,1,a_6.map I⟩)] 2 ?_
 unfold xI at h
 refine cq 10 [5] [I (0)] 34 ?_
 obtain⟨y5,hy5,hy51,hy52⟩:=bJ h
 refine bO rfl ?_
 refine rf [0,1,5] [1] (PB a_6 k_7 rfl (k_7,0,a_6) _ hy5 (fun r' e st hq=>by rw[hy51 r' e] at hq;exact hq) fun u5 hu=>?_)
 replace h:=hy52 u5 hu
 refine cq 5 [4] [I u5.1] 34 ?_
 obtain⟨g6,h⟩:=gG h
 obtain rfl:=sI h
 exact b8 rfl ⟨_,fin (vs:=[I u5.1]) rfl (eV (ba rfl) dU) rfl (jq rfl (ko (f:=I) (xs:=u5.2) (by simpa using g6) rfl) (cu eN)),qi eH⟩
theorem KB {G:b7}:bZ G 19 vU:=gT 2 1 bv cf Tryz.func19 (fun a r h=>YV a.1 a.2 r h)
def Fn:(State×Int)→List V:=cA wC (oA I)
def Fo (r:Int):V×List V:=(I r,[.dead])
noncomputable def CB :=bi [true,false] Fn Fo fun x=>CA x.1 x.2
theorem aem {a_9:State}{tT:Int}{r}(h:CA a_9 tT=some r):CB.F (Fn (a_9,tT))=some (Fo r):=aJ (aN Kd (aK bc)) h
noncomputable def aeo :=aH Tryz.f32
noncomputable def Ux :=ce [(51,vV),(73,Cz),(19,vU)]
def aen (x:State×Int)(r:Int):St→Prop:=QF Ux Tryz.f32 [true,false] (Fn x) (Fo r)
theorem YW (a_9:State)(tT:Int)(r:Int)(h:CA a_9 tT=some r):br Ux Tryz.f32 [true,false] 3 (Fn (a_9,tT)) (Fo r):=by
 show Run _ _ (aen (a_9,tT) r) [.code aeo] _
 refine rI 18 [(0,.agg [I a_9.Day,.hs 1 0 [] 1 0 (a_9.Facts.map str).length,.hs 2 0 [] 4 0 (a_9.Duties.map ah).length,.hs 3 0 [] 1 0 (a_9.Balances.map I).length,B a_9.Over]),(1,I tT)] [(1,some ⟨0,1,a_9.Facts.map str⟩),(2,some ⟨0,4,a_9.Duties.map ah⟩),(3,some ⟨0,1,a_9.Balances.map I⟩)] 4 ?_
 unfold CA at h
 refine aq 2 ?_
 refine oq 20 (.hp 4 0 [] 5 0 0) rfl (Xu rfl (nQ (cC (dB rfl) (cC (dx rfl rfl) (cC (dx rfl rfl) (cC (dx rfl rfl) (cC (dB rfl) nR)))))) rfl) ?_
 refine cq 7 [6,7] [.hs 4 0 [(0,1)] 1 0 (a_9.Facts.map str).length,I tT] 84 ?_
 obtain⟨r3,hr3,h⟩:=bS h
 obtain⟨g4,h⟩:=gG h
 refine oq 100 (I r3.1) rfl (bG rfl rfl (bX rfl rfl rfl (iC (iH rfl (eO (path:=[(0,1)]) rfl rfl (eI rfl rfl aE) rfl)) (bg (bT rfl) cX)) (Uz hr3) (.inr rfl) (gI rfl rfl rfl (D6 (eI rfl rfl aE) (eA (f:=str) (xs:=a_9.Facts) (ys:=r3.2) g4).symm (Es rfl rfl cM (rfl:(_:V)=.agg [I a_9.Day,.usl 1 (r3.2.map str),.usl 4 (a_9.Duties.map ah),.usl 1 (a_9.Balances.map I),B a_9.Over]) rfl)) dF) rfl rfl rfl)) ?_
 try rw[eA (f:=str) (xs:=a_9.Facts) (ys:=r3.2) g4]
 refine ck 7 [10,11] [1] [] [] [.hs 4 1 [(0,2)] 4 0 (a_9.Duties.map ah).length,I r3.1] [] 164 (by kernel_rfl) ?_
 obtain⟨r5,hr5,h⟩:=bS h
 obtain⟨g6,h⟩:=gG h
 refine oq 180 (I r5.1) rfl (bG rfl rfl (bX rfl rfl rfl (iC (iH rfl (eO (path:=[(0,2)]) rfl rfl (eI rfl rfl aE) rfl)) (bg (bT rfl) cX)) (ael hr5) (.inr rfl) (gI rfl rfl rfl (D6 (eI rfl rfl aE) (eA (f:=ah) (xs:=a_9.Duties) (ys:=r5.2) g6).symm (Es rfl rfl cM (rfl:(_:V)=.agg [I a_9.Day,.usl 1 (r3.2.map str),.usl 4 (r5.2.map ah),.usl 1 (a_9.Balances.map I),B a_9.Over]) rfl)) dF) rfl rfl rfl)) ?_
 try rw[eA (f:=ah) (xs:=a_9.Duties) (ys:=r5.2) g6]
 refine cq 7 [14,15] [.hs 4 2 [(0,3)] 1 0 (a_9.Balances.map I).length,I r5.1] 244 ?_
 obtain⟨r7,hr7,h⟩:=bS h
 obtain⟨g8,h⟩:=gG h
 refine oq 260 (I r7.1) rfl (bG rfl rfl (bX rfl rfl rfl (iC (iH rfl (eO (path:=[(0,3)]) rfl rfl (eI rfl rfl aE) rfl)) (bg (bT rfl) cX)) (Uu hr7) (.inr rfl) (gI rfl rfl rfl (D6 (eI rfl rfl aE) (eA (f:=I) (xs:=a_9.Balances) (ys:=r7.2) g8).symm (Es rfl rfl cM (rfl:(_:V)=.agg [I a_9.Day,.usl 1 (r3.2.map str),.usl 4 (r5.2.map ah),.usl 1 (r7.2.map I),B a_9.Over]) rfl)) dF) rfl rfl rfl)) ?_
 try rw[eA (f:=I) (xs:=a_9.Balances) (ys:=r7.2) g8]
 refine cq 7 [4] [I r7.1] 308 ?_
 obtain rfl:=sI h
 exact b8 rfl ⟨_,fin (vs:=[I r7.1]) rfl (eV (ba rfl) dU) rfl (ags (mc (ago rfl) (mc (lK rfl) (mc (lK rfl) (mc (lK rfl) (mc (ago rfl) mn))))) (cu eN)),sJ eH⟩
theorem Uy {G:b7}:bZ G 32 CB:=gT 2 3 (aO KD (aO Ut (aO KB bv))) cf Tryz.func32 (fun a r h=>YW a.1 a.2 r h)
def E8:((List Int)×Int)→List V:=cA (gj I) (oA I)
def E9 (r:Int):V×List V:=(I r,[])
noncomputable def Cq :=bi [false,false] E8 E9 fun x=>xE x.1 x.2
theorem Ud {a_1:List Int}{k_2:Int}{r}(h:xE a_1 k_2=some r):Cq.F (E8 (a_1,k_2))=some (E9 r):=aJ (aN (cn bc) (aK bc)) h
noncomputable def Uf :=aH Tryz.f20
noncomputable def MX :=ce []
def Ue (x:(List Int)×Int)(r:Int):St→Prop:=QF MX Tryz.f20 [false,false] (E8 x) (E9 r)
theorem Px (a_1:List Int)(k_2:Int):cj MX 0 (Ue (a_1,k_2)) (cL (cL (cR (cL (cR Uf))))) 0 (ut a_1 k_2) (fun u=>(sT 21 [(1,I u)] [] 1)) fun x3=>(sT 21 [(0,.isl false (a_1.map I)),(1,I x3.1),(5,I x3.2)] [] 1):=ef (Au a_1 k_2) fun {Q K} hK self ih x3 y h hr hn=>by
 unfold lP at h
 refine cq 5 [6,7] [I x3.2,.isl false (a_1.map I)] 33 ?_
 refine oq 49 (I (len a_1)) rfl (bw rfl rfl rfl (bN rfl)) ?_
 refine cq 2 [9] [B (decide (x3.2<(len a_1)))] 65 ?_
 refine sq h ?_ ?_<;>intro h
 ·refine aq 1 ?_
  refine cq 7 [12,13] [.isl false (a_1.map I),I x3.2] 97 ?_
  obtain⟨e4,he4,h⟩:=bS h
  refine oq 113 (.iptr (I e4) 0) rfl (al rfl rfl rfl (bo rfl rfl rfl rfl he4)) ?_
  refine cq 4 [17] [B (e4 != x3.1)] 161 ?_
  refine sq h ?_ ?_<;>intro h
  ·refine cq 4 [4] [I (-1)] 177 ?_
   exact b8 rfl (hr _ (an h) _ (qp [I (-1)]))
  ·refine aq 1 ?_
   refine cq 11 [1,5] [I (ac (x3.1+1)),I (ac (x3.2+1))] 257 ?_
   refine cY ?_
   exact rf [0,1,5] [] (ih _ _ h hr hn :)
 ·refine aq 1 ?_
  exact rf [1] [] (hn _ (an h) :) (hk:=hK)
theorem YP (a_1:List Int)(k_2:Int)(r:Int)(h:xE a_1 k_2=some r):br MX Tryz.f20 [false,false] 0 (E8 (a_1,k_2)) (E9 r):=by
 show Run _ _ (Ue (a_1,k_2) r) [.code Uf] _
 refine rI 21 [(0,.isl false (a_1.map I)),(1,I k_2)] [] 1 ?_
 unfold xE at h
 refine cq 10 [5] [I (0)] 33 ?_
 obtain⟨y5,hy5,hy51,hy52⟩:=bJ h
 refine bO rfl ?_
 refine rf [0,1,5] [] (Px a_1 k_2 rfl (k_2,0) _ hy5 (fun r' e st hq=>by rw[hy51 r' e] at hq;exact hq) fun u5 hu=>?_)
 replace h:=hy52 u5 hu
 refine cq 5 [4] [I u5] 33 ?_
 obtain rfl:=sI h
 exact rP [I u5]
theorem Ug {G:b7}:bZ G 20 Cq:=gT 2 0 bv cf Tryz.func20 (fun a r h=>YP a.1 a.2 r h)
def i6:(Contract×State×Int)→List V:=cA aP (cA bH (oA I))
def i7 (r:Bool):V×List V:=(B r,[])
noncomputable def jN :=bi [false,false,false] i6 i7 fun x=>gB x.1 x.2.1 x.2.2
theorem wN {gV:Contract}{gW:State}{eK:Int}{r}(h:gB gV gW eK=some r):jN.F (i6 (gV,gW,eK))=some (i7 r):=aJ (aN bb (aN cd (aK bc))) h
noncomputable def ge :=aH Tryz.f7
noncomputable abbrev iJ :=cR (cR (cR (cR (cR (cR (cR (cR (cR (cR (cR (cR (cR (cR (cR (cR (cR ge))))))))))))))))
noncomputable abbrev oW :=cR (cL (cR (cR (cR (cR (cR (cR (cR (cR (cR (cR (cR (cR (cR (cR (cR (cR ge)))))))))))))))))
noncomputable def gc :=ce [(12,CI),(21,CO),(14,CV),(23,C1),(30,Dq),(31,Ju),(16,vS),(17,Ck),(25,Cp),(18,Cx),(32,CB),(19,vU),(20,Cq)]
def fA (x:Contract×State×Int)(r:Bool):St→Prop:=QF gc Tryz.f7 [false,false,false] (i6 x) (i7 r)
theorem tU (gV:Contract)(gW:State)(eK:Int)(r:Bool)(h:gB gV gW eK=some r):br gc Tryz.f7 [false,false,false] 0 (i6 (gV,gW,eK)) (i7 r):=by
 show Run _ _ (fA (gV,gW,eK) r) [.code ge] _
 refine rI 124 [(0,aP gV),(1,bH gW),(2,I eK)] [] 1 ?_
 unfold gB at h
 refine ck 14 [3,4,19,20] [] [1,17] [] [.hp 1 0 [] 2 0 0,.hp 17 0 [] 5 0 0,aP gV,I (1048576)] [some ⟨0,2,[aP gV]⟩,some ⟨0,5,[bH gW]⟩] 97 (by kernel_rfl) ?_
 obtain⟨r4,hr4,h⟩:=bS h
 refine oq 113 (I r4) rfl (cP (aex hr4)) ?_
 refine cq 8 [7,23] [I r4,B (decide (r4<0))] 161 ?_
 refine sq h ?_ ?_<;>intro h
 ·refine cq 4 [6] [B true] 177 ?_
  obtain rfl:=sI h
  exact rP [B true]
 ·refine aq 1 ?_
  refine cq 4 [24,25] [bH gW,I r4] 193 ?_
  obtain⟨r5,hr5,h⟩:=bS h
  refine oq 209 (I r5) rfl (cP (aeG hr5)) ?_
  refine ck 8 [28] [7] [] [] [B (decide (r5<0))] [] 257 (by kernel_rfl) ?_
  refine sq h ?_ ?_<;>intro h
  ·refine cq 4 [6] [B true] 273 ?_
   obtain rfl:=sI h
   exact rP [B true]
  ·refine aq 1 ?_
   refine aq 1 ?_
   refine eb [0,1,0,7,0,31,63,127,127,255,1023] rfl (by decide +kernel) ?_
   refine dq [1] [] (aP gV) rfl (aX rfl rfl) ?_
   obtain⟨r6,hr6,h⟩:=bS h
   refine dq [] [] (.agg [.hs 273 0 [] 1 0 (r6.Parties.map str).length,.hs 274 0 [] 12 0 (r6.Clauses.map ak).length]) rfl (cP (sb hr6)) ?_ (d3 rfl rfl rfl rfl (bg (bT rfl) cX) (sb hr6) (.inr rfl) rfl)
   refine dq [17] [] (bH gW) rfl (aX rfl rfl) ?_
   obtain⟨r7,hr7,h⟩:=bS h
   refine dq [] [] (.agg [I r7.Day,.hs 305 0 [] 1 0 (r7.Facts.map str).length,.hs 306 0 [] 4 0 (r7.Duties.map ah).length,.hs 307 0 [] 1 0 (r7.Balances.map I).length,B r7.Over]) rfl (cP (sd hr7)) ?_ (d3 rfl rfl rfl rfl (bg (bT rfl) cX) (sd hr7) (.inr rfl) rfl)
   refine dk 1 [34] [I eK] ?_
   obtain⟨r8,hr8,h⟩:=bS h
   refine dq [273,274,305,306,307] [] (.tup [.hs 337 0 [] 1 0 (r8.1.map I).length,B r8.2]) rfl (bG rfl rfl (bX rfl rfl rfl (bg (pJ (dD (dI (f:=str) (g:=str) (xs:=r6.Parties) rfl rfl (bP fI)) (dD (dI (f:=ak) (g:=au) (xs:=r6.Clauses) rfl rfl (bP fP)) gK))) (bg (pJ (dD (fS rfl) (dD (dI (f:=str) (g:=str) (xs:=r7.Facts) rfl rfl (bP fI)) (dD (dI (f:=ah) (g:=ah) (xs:=r7.Duties) rfl rfl (bP gO)) (dD (dI (f:=I) (g:=I) (xs:=r7.Balances) rfl rfl (bP iY)) (dD (fS rfl) gK)))))) (bg (bT rfl) cX))) (V8 hr8) (.inl (by simp[cT,dE,str,kN (f:=I) qO])) dF rfl rfl rfl)) ?_ (d3 rfl rfl rfl rfl (bg (pJ (dD (dI (f:=str) (g:=str) (xs:=r6.Parties) rfl rfl (bP fI)) (dD (dI (f:=ak) (g:=au) (xs:=r6.Clauses) rfl rfl (bP fP)) gK))) (bg (pJ (dD (fS rfl) (dD (dI (f:=str) (g:=str) (xs:=r7.Facts) rfl rfl (bP fI)) (dD (dI (f:=ah) (g:=ah) (xs:=r7.Duties) rfl rfl (bP gO)) (dD (dI (f:=I) (g:=I) (xs:=r7.Balances) rfl rfl (bP iY)) (dD (fS rfl) gK)))))) (bg (bT rfl) cX))) (V8 hr8) (.inl (by simp[cT,dE,str,kN (f:=I) qO])) rfl)
   refine dk 5 [9,8,37,36,29] [B r8.2,.hs 337 0 [] 1 0 (r8.1.map I).length,B r8.2,.hs 337 0 [] 1 0 (r8.1.map I).length,.tup [.hs 337 0 [] 1 0 (r8.1.map I).length,B r8.2]] ?_
   refine de 433 rfl rfl ?_
   refine cq 3 [38] [aP gV] 449 ?_
   obtain⟨r9,hr9,h⟩:=bS h
   refine oq 465 (.agg [.hs 449 0 [] 1 0 (r9.Parties.map str).length,.hs 450 0 [] 12 0 (r9.Clauses.map ak).length]) rfl (cP (sb hr9)) ?_
   refine ck 1 [10] [] [465] [] [.hp 465 0 [] 2 0 0] [some ⟨0,2,[.agg [.isl true [],.isl true []]]⟩] 481 (by kernel_rfl) ?_
   refine gm 465 [.agg [.usl 1 (([]).map str),.usl 12 (([]).map ak)]] rfl rfl (aR (iu (aR (.nil _) (aR (.nil _) fi))) fi) ?_
   refine o0 497 rfl rfl (et rfl rfl (dG (path:=[]) (pl:=false) (e':=kY r9) (es2':=[kY r9]) rfl (nQ (cC (dx rfl rfl) (cC (dx rfl rfl) nR))) rfl rfl rfl aE rfl rfl rfl rfl rfl cM 2 rfl)) ?_
   refine cq 4 [40] [bH gW] 513 ?_
   obtain⟨r10,hr10,h⟩:=bS h
   refine oq 529 (.agg [I r10.Day,.hs 513 0 [] 1 0 (r10.Facts.map str).length,.hs 514 0 [] 4 0 (r10.Duties.map ah).length,.hs 515 0 [] 1 0 (r10.Balances.map I).length,B r10.Over]) rfl (cP (sd hr10)) ?_
   refine ck 1 [11] [] [529] [] [.hp 529 0 [] 5 0 0] [some ⟨0,5,[.agg [I (0),.isl true [],.isl true [],.isl true [],B false]]⟩] 545 (by kernel_rfl) ?_
   refine gm 529 [.agg [I (0),.usl 1 (([]).map str),.usl 4 (([]).map ah),.usl 1 (([]).map I),B false]] rfl rfl (aR (iu (aR (.refl _) (aR (.nil _) (aR (.nil _) (aR (.nil _) (aR (.refl _) fi)))))) fi) ?_
   refine o0 561 rfl rfl (et rfl rfl (dG (path:=[]) (pl:=false) (e':=nJ r10) (es2':=[nJ r10]) rfl (nQ (cC (dB rfl) (cC (dx rfl rfl) (cC (dx rfl rfl) (cC (dx rfl rfl) (cC (dB rfl) nR)))))) rfl rfl rfl aE rfl rfl rfl rfl rfl cM 2 rfl)) ?_
   refine cq 6 [43,44,45] [.agg [.hs 465 2 [(0,0)] 1 0 (r9.Parties.map str).length,.hs 465 2 [(0,1)] 12 0 (r9.Clauses.map ak).length],.agg [I r10.Day,.hs 529 2 [(0,1)] 1 0 (r10.Facts.map str).length,.hs 529 2 [(0,2)] 4 0 (r10.Duties.map ah).length,.hs 529 2 [(0,3)] 1 0 (r10.Balances.map I).length,B r10.Over],I eK] 609 ?_
   obtain⟨r11,hr11,h⟩:=bS h
   refine oq 625 (.tup [.hs 609 0 [] 1 0 (r11.1.map I).length,B r11.2]) rfl (bG rfl rfl (bX rfl rfl rfl (bg (pJ (dD (kV (path:=[(0,0)]) rfl rfl (eI rfl rfl aE) rfl (bP (f:=str) fI)) (dD (kV (path:=[(0,1)]) rfl rfl (eI rfl rfl aE) rfl (bP (f:=ak) fP)) gK))) (bg (pJ (dD (fS rfl) (dD (kV (path:=[(0,1)]) rfl rfl (eI rfl rfl aE) rfl (bP (f:=str) fI)) (dD (kV (path:=[(0,2)]) rfl rfl (eI rfl rfl aE) rfl (bP (f:=ah) gO)) (dD (kV (path:=[(0,3)]) rfl rfl (eI rfl rfl aE) rfl (bP (f:=I) iY)) (dD (fS rfl) gK)))))) (bg (bT rfl) cX))) (RJ hr11) (.inl (by simp[cT,dE,str,kN (f:=I) qO])) dF rfl rfl rfl)) ?_
   refine cq 11 [12,13,49,50] [.hs 609 0 [] 1 0 (r11.1.map I).length,B r11.2,.hs 609 0 [] 1 0 (r11.1.map I).length,.hs 337 0 [] 1 0 (r8.1.map I).length] 737 ?_
   obtain⟨r12,hr12,h⟩:=bS h
   refine oq 753 (B r12) rfl (bG rfl rfl (bX rfl rfl rfl (bg (xp rfl rfl (dI (f:=I) (g:=I) (xs:=r11.1) rfl rfl (bP iY))) (bg (xp rfl rfl (dI (f:=I) (g:=I) (xs:=r8.1) rfl rfl (bP iY))) cX)) (E2 hr12) (.inl rfl) dF rfl rfl rfl)) ?_
   refine cq 2 [53] [B (!r12)] 785 ?_
   obtain⟨u13,hu13,h⟩:=lJ h
   have j13:Run gc 0 (fA (gV,gW,eK) r) (.code (cR (cL (cR (cR (cR (cR (cR (cR (cR (cR (cR (cR ge))))))))))))::.code (cR (cR (cR (cR (cR (cR (cR (cR (cR (cR (cR ge)))))))))))::[]) (sT 124 [(2,I eK),(3,.hp 1 0 [] 2 0 0),(4,.hp 2 0 [] 5 0 0),(8,.hs 3 0 [] 1 0 (r8.1.map I).length),(9,B r8.2),(10,.hp 4 0 [] 2 0 0),(11,.hp 5 0 [] 5 0 0),(12,.hs 6 0 [] 1 0 (r11.1.map I).length),(13,B r11.2),(57,B u13)] [⟨0,2,[aP gV]⟩,⟨0,5,[bH gW]⟩,⟨0,1,r8.1.map I⟩,⟨0,2,[kY r9]⟩,⟨0,5,[nJ r10]⟩,⟨0,1,r11.1.map I⟩] 7):=by
    refine sq h ?_ ?_<;>intro h
    ·refine cq 4 [6] [B false] 23 ?_
     obtain rfl:=sI h
     exact rP [B false]
    ·refine aq 1 ?_
     refine aq 2 ?_
     refine eb [0,0,2,7,15] rfl (by decide +kernel) ?_
     refine dq [4] [] (.agg [.hs 4 0 [(0,0)] 1 0 (r9.Parties.map str).length,.hs 4 0 [(0,1)] 12 0 (r9.Clauses.map ak).length]) rfl (aX rfl rfl) ?_
     refine dq [1] [] (aP gV) rfl (aX rfl rfl) ?_
     obtain⟨r14,hr14,h⟩:=bS h
     refine dq [] [] (.agg [.hs 39 0 [] 1 0 (r14.Parties.map str).length,.hs 40 0 [] 12 0 (r14.Clauses.map ak).length]) rfl (cP (sb hr14)) ?_ (d3 rfl rfl rfl rfl (bg (bT rfl) cX) (sb hr14) (.inr rfl) rfl)
     obtain⟨r15,hr15,h⟩:=bS h
     refine dq [4,4,39,40] [] (B r15) rfl (bG rfl rfl (bX rfl rfl rfl (bg (pJ (dD (kV (path:=[(0,0)]) rfl rfl (eI rfl rfl aE) rfl (bP (f:=str) fI)) (dD (kV (path:=[(0,1)]) rfl rfl (eI rfl rfl aE) rfl (bP (f:=ak) fP)) gK))) (bg (pJ (dD (dI (f:=str) (g:=str) (xs:=r14.Parties) rfl rfl (bP fI)) (dD (dI (f:=ak) (g:=au) (xs:=r14.Clauses) rfl rfl (bP fP)) gK))) cX)) (TW hr15) (.inl rfl) dF rfl rfl rfl)) ?_ (d3 rfl rfl rfl rfl (bg (pJ (dD (kV (path:=[(0,0)]) rfl rfl (eI rfl rfl aE) rfl (bP (f:=str) fI)) (dD (kV (path:=[(0,1)]) rfl rfl (eI rfl rfl aE) rfl (bP (f:=ak) fP)) gK))) (bg (pJ (dD (dI (f:=str) (g:=str) (xs:=r14.Parties) rfl rfl (bP fI)) (dD (dI (f:=ak) (g:=au) (xs:=r14.Clauses) rfl rfl (bP fP)) gK))) cX)) (TW hr15) (.inl rfl) rfl)
     refine dk 1 [62] [B (!r15)] ?_
     refine de 87 rfl rfl ?_
     refine sq h ?_ ?_<;>intro h
     ·refine cq 4 [6] [B false] 103 ?_
      obtain rfl:=sI h
      exact rP [B false]
     ·refine aq 1 ?_
      refine aq 2 ?_
      refine eb [0,0,2,7,15] rfl (by decide +kernel) ?_
      refine dq [5] [] (.agg [I r10.Day,.hs 5 0 [(0,1)] 1 0 (r10.Facts.map str).length,.hs 5 0 [(0,2)] 4 0 (r10.Duties.map ah).length,.hs 5 0 [(0,3)] 1 0 (r10.Balances.map I).length,B r10.Over]) rfl (aX rfl rfl) ?_
      refine dq [2] [] (bH gW) rfl (aX rfl rfl) ?_
      obtain⟨r16,hr16,h⟩:=bS h
      refine dq [] [] (.agg [I r16.Day,.hs 119 0 [] 1 0 (r16.Facts.map str).length,.hs 120 0 [] 4 0 (r16.Duties.map ah).length,.hs 121 0 [] 1 0 (r16.Balances.map I).length,B r16.Over]) rfl (cP (sd hr16)) ?_ (d3 rfl rfl rfl rfl (bg (bT rfl) cX) (sd hr16) (.inr rfl) rfl)
      obtain⟨r17,hr17,h⟩:=bS h
      refine dq [5,5,5,119,120,121] [] (B r17) rfl (bG rfl rfl (bX rfl rfl rfl (bg (pJ (dD (fS rfl) (dD (kV (path:=[(0,1)]) rfl rfl (eI rfl rfl aE) rfl (bP (f:=str) fI)) (dD (kV (path:=[(0,2)]) rfl rfl (eI rfl rfl aE) rfl (bP (f:=ah) gO)) (dD (kV (path:=[(0,3)]) rfl rfl (eI rfl rfl aE) rfl (bP (f:=I) iY)) (dD (fS rfl) gK)))))) (bg (pJ (dD (fS rfl) (dD (dI (f:=str) (g:=str) (xs:=r16.Facts) rfl rfl (bP fI)) (dD (dI (f:=ah) (g:=ah) (xs:=r16.Duties) rfl rfl (bP gO)) (dD (dI (f:=I) (g:=I) (xs:=r16.Balances) rfl rfl (bP iY)) (dD (fS rfl) gK)))))) cX)) (T8 hr17) (.inl rfl) dF rfl rfl rfl)) ?_ (d3 rfl rfl rfl rfl (bg (pJ (dD (fS rfl) (dD (kV (path:=[(0,1)]) rfl rfl (eI rfl rfl aE) rfl (bP (f:=str) fI)) (dD (kV (path:=[(0,2)]) rfl rfl (eI rfl rfl aE) rfl (bP (f:=ah) gO)) (dD (kV (path:=[(0,3)]) rfl rfl (eI rfl rfl aE) rfl (bP (f:=I) iY)) (dD (fS rfl) gK)))))) (bg (pJ (dD (fS rfl) (dD (dI (f:=str) (g:=str) (xs:=r16.Facts) rfl rfl (bP fI)) (dD (dI (f:=ah) (g:=ah) (xs:=r16.Duties) rfl rfl (bP gO)) (dD (dI (f:=I) (g:=I) (xs:=r16.Balances) rfl rfl (bP iY)) (dD (fS rfl) gK)))))) cX)) (T8 hr17) (.inl rfl) rfl)
      refine dk 1 [67] [B (!r17)] ?_
      refine de 167 rfl rfl ?_
      refine sq h ?_ ?_<;>intro h
      ·refine cq 4 [6] [B false] 183 ?_
       obtain rfl:=sI h
       exact rP [B false]
      ·refine aq 1 ?_
       refine cq 8 [68,69] [.agg [.hs 4 0 [(0,0)] 1 0 (r9.Parties.map str).length,.hs 4 0 [(0,1)] 12 0 (r9.Clauses.map ak).length],I (1)] 215 ?_
       obtain⟨r18,hr18,h⟩:=bS h
       refine sS 68 0 (path:=[(0,0)]) (.agg [.hs 215 0 [] 1 0 (r9.Parties.map str).length,.hs 4 0 [(0,1)] 12 0 (r9.Clauses.map ak).length]) 231 rfl rfl rfl rfl rfl (eI rfl rfl aE) (kX (path:=[]) (i:=0) (k:=0) (e':=.agg [.dead,.usl 12 (r9.Clauses.map ak)]) (es2':=[.agg [.dead,.usl 12 (r9.Clauses.map ak)]]) aE rfl rfl rfl cM) rfl rfl ?_
       refine sS 68 1 (path:=[(0,1)]) (.agg [.hs 215 0 [] 1 0 (r9.Parties.map str).length,.hs 231 0 [] 12 0 (r9.Clauses.map ak).length]) 247 rfl rfl rfl rfl rfl (eI rfl rfl aE) (kX (path:=[]) (i:=0) (k:=1) (e':=.agg [.dead,.dead]) (es2':=[.agg [.dead,.dead]]) aE rfl rfl rfl cM) rfl rfl ?_
       refine oq 263 (I r18) rfl (bG rfl rfl (bX rfl rfl rfl (iC (hdA (OH (eO (path:=[]) rfl rfl aE rfl) (OH (eO (path:=[]) rfl rfl aE rfl) hdN))) (bg (bT rfl) cX)) (aei hr18) (.inr rfl) (gI rfl rfl rfl mS (Sv rfl rfl rfl dF)) rfl rfl rfl)) ?_
       refine cq 6 [71,72] [.agg [I r10.Day,.hs 5 0 [(0,1)] 1 0 (r10.Facts.map str).length,.hs 5 0 [(0,2)] 4 0 (r10.Duties.map ah).length,.hs 5 0 [(0,3)] 1 0 (r10.Balances.map I).length,B r10.Over],I r18] 311 ?_
       obtain⟨r19,hr19,h⟩:=bS h
       refine sS 71 1 (path:=[(0,1)]) (.agg [I r10.Day,.hs 311 0 [] 1 0 (r10.Facts.map str).length,.hs 5 0 [(0,2)] 4 0 (r10.Duties.map ah).length,.hs 5 0 [(0,3)] 1 0 (r10.Balances.map I).length,B r10.Over]) 327 rfl rfl rfl rfl rfl (eI rfl rfl aE) (kX (path:=[]) (i:=0) (k:=1) (e':=.agg [I r10.Day,.dead,.usl 4 (r10.Duties.map ah),.usl 1 (r10.Balances.map I),B r10.Over]) (es2':=[.agg [I r10.Day,.dead,.usl 4 (r10.Duties.map ah),.usl 1 (r10.Balances.map I),B r10.Over]]) aE rfl rfl rfl cM) rfl rfl ?_
       refine sS 71 2 (path:=[(0,2)]) (.agg [I r10.Day,.hs 311 0 [] 1 0 (r10.Facts.map str).length,.hs 327 0 [] 4 0 (r10.Duties.map ah).length,.hs 5 0 [(0,3)] 1 0 (r10.Balances.map I).length,B r10.Over]) 343 rfl rfl rfl rfl rfl (eI rfl rfl aE) (kX (path:=[]) (i:=0) (k:=2) (e':=.agg [I r10.Day,.dead,.dead,.usl 1 (r10.Balances.map I),B r10.Over]) (es2':=[.agg [I r10.Day,.dead,.dead,.usl 1 (r10.Balances.map I),B r10.Over]]) aE rfl rfl rfl cM) rfl rfl ?_
       refine sS 71 3 (path:=[(0,3)]) (.agg [I r10.Day,.hs 311 0 [] 1 0 (r10.Facts.map str).length,.hs 327 0 [] 4 0 (r10.Duties.map ah).length,.hs 343 0 [] 1 0 (r10.Balances.map I).length,B r10.Over]) 359 rfl rfl rfl rfl rfl (eI rfl rfl aE) (kX (path:=[]) (i:=0) (k:=3) (e':=.agg [I r10.Day,.dead,.dead,.dead,B r10.Over]) (es2':=[.agg [I r10.Day,.dead,.dead,.dead,B r10.Over]]) aE rfl rfl rfl cM) rfl rfl ?_
       refine oq 375 (I r19) rfl (bG rfl rfl (bX rfl rfl rfl (iC (hdA (OH (agi rfl) (OH (eO (path:=[]) rfl rfl aE rfl) (OH (eO (path:=[]) rfl rfl aE rfl) (OH (eO (path:=[]) rfl rfl aE rfl) (OH (agi rfl) hdN)))))) (bg (bT rfl) cX)) (aem hr19) (.inr rfl) (Sv rfl rfl rfl (Sv rfl rfl rfl (Sv rfl rfl rfl dF))) rfl rfl rfl)) ?_
       refine cq 8 [76] [B (decide (r19<0))] 439 ?_
       obtain⟨y20,hy20,hy201,hy202⟩:=bJ h
       have j20:∀u20,y20=.inr u20→Run gc 0 (fA (gV,gW,eK) r) (.code oW::.code iJ::[]) (sT 124 [(2,I eK),(3,.hp 1 0 [] 2 0 0),(4,.hp 2 0 [] 5 0 0),(8,.hs 3 0 [] 1 0 (r8.1.map I).length),(9,B r8.2),(12,.hs 4 0 [] 1 0 (r11.1.map I).length),(86,B u20)] [⟨0,2,[aP gV]⟩,⟨0,5,[bH gW]⟩,⟨0,1,r8.1.map I⟩,⟨0,1,r11.1.map I⟩] 5):=by
        intro u20 hu
        replace h:=hy202 u20 hu
        refine sq h ?_ ?_<;>intro h
        ·refine cq 4 [6] [B false] 21 ?_
         obtain rfl:=sI h
         exact rP [B false]
        ·refine aq 1 ?_
         refine cq 8 [87,88] [.hs 4 0 [] 1 0 (r11.1.map I).length,I (1)] 53 ?_
         obtain⟨r21,hr21,h⟩:=bS h
         obtain⟨g22,h⟩:=gG h
         refine oq 69 (I r21.1) rfl (bG rfl rfl (bX rfl rfl rfl (iC (iH rfl (eO (path:=[]) rfl rfl aE rfl)) (bg (bT rfl) cX)) (Uu hr21) (.inr rfl) (gI rfl rfl rfl rfl dF) rfl rfl rfl)) ?_
         try rw[eA (f:=I) (xs:=r11.1) (ys:=r21.2) g22]
         refine cq 10 [15,90,91] [I r21.1,.hs 4 0 [] 1 0 (r21.2.map I).length,I (1)] 133 ?_
         obtain⟨r23,hr23,h⟩:=bS h
         refine oq 149 (I r23) rfl (bG rfl rfl (bX rfl rfl rfl (bg (xp rfl rfl (dI (f:=I) (g:=I) (xs:=r21.2) rfl rfl (bP iY))) (bg (bT rfl) cX)) (Ud hr23) (.inl rfl) dF rfl rfl rfl)) ?_
         refine cq 8 [16,94] [I r23,B (decide (r23<0))] 197 ?_
         refine sq h ?_ ?_<;>intro h
         ·refine cq 4 [6] [B false] 213 ?_
          obtain rfl:=sI h
          exact rP [B false]
         ·refine aq 1 ?_
          refine cq 7 [97] [B (r23 != r21.1)] 245 ?_
          refine sq h ?_ ?_<;>intro h
          ·refine cq 4 [6] [B false] 261 ?_
           obtain rfl:=sI h
           exact rP [B false]
          ·refine aq 1 ?_
           refine aq 1 ?_
           refine eb [0,1,0,7,0,31,63,127,127,255,1023] rfl (by decide +kernel) ?_
           refine dq [1] [] (aP gV) rfl (aX rfl rfl) ?_
           obtain⟨r24,hr24,h⟩:=bS h
           refine dq [] [] (.agg [.hs 261 0 [] 1 0 (r24.Parties.map str).length,.hs 262 0 [] 12 0 (r24.Clauses.map ak).length]) rfl (cP (sb hr24)) ?_ (d3 rfl rfl rfl rfl (bg (bT rfl) cX) (sb hr24) (.inr rfl) rfl)
           refine dq [2] [] (bH gW) rfl (aX rfl rfl) ?_
           obtain⟨r25,hr25,h⟩:=bS h
           refine dq [] [] (.agg [I r25.Day,.hs 293 0 [] 1 0 (r25.Facts.map str).length,.hs 294 0 [] 4 0 (r25.Duties.map ah).length,.hs 295 0 [] 1 0 (r25.Balances.map I).length,B r25.Over]) rfl (cP (sd hr25)) ?_ (d3 rfl rfl rfl rfl (bg (bT rfl) cX) (sd hr25) (.inr rfl) rfl)
           refine dk 1 [103] [I eK] ?_
           obtain⟨r26,hr26,h⟩:=bS h
           refine dq [261,262,293,294,295] [] (.tup [.hs 325 0 [] 1 0 (r26.1.map I).length,B r26.2]) rfl (bG rfl rfl (bX rfl rfl rfl (bg (pJ (dD (dI (f:=str) (g:=str) (xs:=r24.Parties) rfl rfl (bP fI)) (dD (dI (f:=ak) (g:=au) (xs:=r24.Clauses) rfl rfl (bP fP)) gK))) (bg (pJ (dD (fS rfl) (dD (dI (f:=str) (g:=str) (xs:=r25.Facts) rfl rfl (bP fI)) (dD (dI (f:=ah) (g:=ah) (xs:=r25.Duties) rfl rfl (bP gO)) (dD (dI (f:=I) (g:=I) (xs:=r25.Balances) rfl rfl (bP iY)) (dD (fS rfl) gK)))))) (bg (bT rfl) cX))) (RJ hr26) (.inl (by simp[cT,dE,str,kN (f:=I) qO])) dF rfl rfl rfl)) ?_ (d3 rfl rfl rfl rfl (bg (pJ (dD (dI (f:=str) (g:=str) (xs:=r24.Parties) rfl rfl (bP fI)) (dD (dI (f:=ak) (g:=au) (xs:=r24.Clauses) rfl rfl (bP fP)) gK))) (bg (pJ (dD (fS rfl) (dD (dI (f:=str) (g:=str) (xs:=r25.Facts) rfl rfl (bP fI)) (dD (dI (f:=ah) (g:=ah) (xs:=r25.Duties) rfl rfl (bP gO)) (dD (dI (f:=I) (g:=I) (xs:=r25.Balances) rfl rfl (bP iY)) (dD (fS rfl) gK)))))) (bg (bT rfl) cX))) (RJ hr26) (.inl (by simp[cT,dE,str,kN (f:=I) qO])) rfl)
           refine dk 5 [18,17,106,105,98] [B r26.2,.hs 325 0 [] 1 0 (r26.1.map I).length,B r26.2,.hs 325 0 [] 1 0 (r26.1.map I).length,.tup [.hs 325 0 [] 1 0 (r26.1.map I).length,B r26.2]] ?_
           refine de 421 rfl rfl ?_
           refine cq 5 [107,108] [.hs 325 0 [] 1 0 (r26.1.map I).length,.hs 3 0 [] 1 0 (r8.1.map I).length] 453 ?_
           obtain⟨r27,hr27,h⟩:=bS h
           refine oq 469 (B r27) rfl (bG rfl rfl (bX rfl rfl rfl (bg (xp rfl rfl (dI (f:=I) (g:=I) (xs:=r26.1) rfl rfl (bP iY))) (bg (xp rfl rfl (dI (f:=I) (g:=I) (xs:=r8.1) rfl rfl (bP iY))) cX)) (E2 hr27) (.inl rfl) dF rfl rfl rfl)) ?_
           refine cq 2 [111] [B (!r27)] 501 ?_
           obtain⟨u28,hu28,h⟩:=lJ h
           have j28:Run gc 0 (fA (gV,gW,eK) r) (.code (cR (cL (cR (cR (cR (cR (cR (cR (cR iJ)))))))))::.code (cR (cR (cR (cR (cR (cR (cR (cR iJ))))))))::[]) (sT 124 [(12,.hs 1 0 [] 1 0 (r21.2.map I).length),(15,I r21.1),(115,B u28)] [⟨0,1,r21.2.map I⟩] 2):=by
            refine sq h ?_ ?_<;>intro h
            ·refine cq 4 [6] [B false] 18 ?_
             obtain rfl:=sI h
             exact rP [B false]
            ·refine aq 1 ?_
             refine cq 8 [116,117] [.hs 1 0 [] 1 0 (r21.2.map I).length,I (1)] 50 ?_
             obtain⟨r29,hr29,h⟩:=bS h
             refine oq 66 (I r29) rfl (bG rfl rfl (bX rfl rfl rfl (bg (xp rfl rfl (dI (f:=I) (g:=I) (xs:=r21.2) rfl rfl (bP iY))) (bg (bT rfl) cX)) (Ud hr29) (.inl rfl) dF rfl rfl rfl)) ?_
             refine cq 8 [16,120] [I r29,B (decide (r29<0))] 114 ?_
             refine sq h ?_ ?_<;>intro h
             ·refine cq 4 [6] [B false] 130 ?_
              obtain rfl:=sI h
              exact rP [B false]
             ·refine aq 1 ?_
              refine cq 7 [123] [B (r29 != r21.1)] 162 ?_
              refine sq h ?_ ?_<;>intro h
              ·refine cq 4 [6] [B false] 178 ?_
               obtain rfl:=sI h
               exact rP [B false]
              ·refine aq 1 ?_
               refine cq 4 [6] [B true] 178 ?_
               obtain rfl:=sI h
               exact rP [B true]
           replace h:=hu28
           clear hu28
           refine sp 111 h rfl ?_ ?_<;>intro h
           ·refine cq 5 [115] [B true] 565 ?_
            subst h
            exact rf [12,15,115] [4] (j28 :)
           ·refine cq 5 [115] [B (!(r26.2==r8.2))] 565 ?_
            subst h
            exact rf [12,15,115] [4] (j28 :)
       have r20:∀r',y20=.inl r'→∀st,fA (gV,gW,eK) r' st→(fA (gV,gW,eK) r) st:=fun r' e st hq=>by rw[hy201 r' e] at hq;exact hq
       replace h:=hy20
       refine sp 76 h rfl ?_ ?_<;>intro h
       ·refine cq 11 [86] [B true] 599 ?_
        exact rf [2,3,4,8,9,12,86] [1,2,3,6] (j20 _ (an h) :)
       ·refine cq 2 [77,78] [.hs 6 0 [] 1 0 (r11.1.map I).length,.hs 3 0 [] 1 0 (r8.1.map I).length] 471 ?_
        obtain⟨r30,hr30,h⟩:=bS h
        refine oy 487 (B r30) rfl (bG rfl rfl (bX rfl rfl rfl (bg (xp rfl rfl (dI (f:=I) (g:=I) (xs:=r11.1) rfl rfl (bP iY))) (bg (xp rfl rfl (dI (f:=I) (g:=I) (xs:=r8.1) rfl rfl (bP iY))) cX)) (E2 hr30) (.inl rfl) dF rfl rfl rfl)) ?_
        refine cq 3 [82] [B (!r30)] 535 ?_
        obtain⟨u31,hu31,h⟩:=lJ h
        have j31:Run gc 0 (fA (gV,gW,eK) r) (.code oW::.code iJ::[]) (sT 124 [(2,I eK),(3,.hp 1 0 [] 2 0 0),(4,.hp 2 0 [] 5 0 0),(8,.hs 3 0 [] 1 0 (r8.1.map I).length),(9,B r8.2),(12,.hs 4 0 [] 1 0 (r11.1.map I).length),(86,B u31)] [⟨0,2,[aP gV]⟩,⟨0,5,[bH gW]⟩,⟨0,1,r8.1.map I⟩,⟨0,1,r11.1.map I⟩] 5):=by
         exact rf [2,3,4,8,9,12,86] [1,2,3,4] (j20 _ (an h) :)
        replace h:=hu31
        clear hu31
        refine sp 82 h rfl ?_ ?_<;>intro h
        ·refine cq 5 [86] [B true] 599 ?_
         subst h
         exact rf [2,3,4,8,9,12,86] [1,2,3,6] (j31 :)
        ·refine cq 5 [86] [B (!(r11.2==r8.2))] 599 ?_
         subst h
         exact rf [2,3,4,8,9,12,86] [1,2,3,6] (j31 :)
   replace h:=hu13
   clear hu13
   refine sp 53 h rfl ?_ ?_<;>intro h
   ·refine cq 5 [57] [B true] 849 ?_
    subst h
    exact rf [2,3,4,8,9,10,11,12,13,57] [1,17,337,465,529,609] (j13 :)
   ·refine cq 5 [57] [B (!(r11.2==r8.2))] 849 ?_
    subst h
    exact rf [2,3,4,8,9,10,11,12,13,57] [1,17,337,465,529,609] (j13 :)
theorem sY {G:b7}:bZ G 7 jN:=gT 3 0 (aO UQ (aO UW (aO Vb (aO Vl (aO V9 (aO YX (aO Kz (aO TX (aO T9 (aO Uq (aO Uy (aO KB (aO Ug bv))))))))))))) cf Tryz.func7 (fun a r h=>tU a.1 a.2.1 a.2.2 r h)
end Go.Ln
