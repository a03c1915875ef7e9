/-
  The walks.
-/
import Derived.Test.YtcfddlacocdpoaaGreatDoorFnExactExposureOfRunA
set_option maxHeartbeats 4000000
set_option linter.unusedVariables false
set_option linter.unusedSimpArgs false
set_option maxRecDepth 100000
namespace Go.Ln
open Go Go.Proofs
theorem Wl (jU:List ac)(r:(List ac))(h:AV jU=some r):br RB Tryz.f143 [true] 1 (Dp jU) (Dq r):=by
 show Run _ _ (abx jU r) [.code aby] _
 refine rI 7 [(0,.hs 1 0 [] 1 0 (jU.map str).length)] [(1,some ⟨0,1,jU.map str⟩)] 2 ?_
 unfold AV at h
 refine cq 7 [3] [.hs 1 0 [] 1 0 (jU.map str).length] 34 ?_
 obtain⟨r2,hr2,h⟩:=bS h
 obtain⟨g3,h⟩:=gG h
 refine oq 50 (.tup []) rfl (b8 rfl rfl (cu rfl rfl rfl (li (ki rfl (gb (path:=[]) rfl rfl aX rfl)) dx) (Zc hr2) (.inr rfl) (ju rfl rfl rfl rfl ec) rfl rfl rfl)) ?_
 try rw[iE (f:=str) (xs:=jU) (ys:=r2) g3]
 refine cq 4 [5] [.hs 1 0 [] 1 0 (r2.map str).length] 66 ?_
 obtain⟨r4,hr4,h⟩:=bS h
 refine oq 82 (.hs 66 0 [] 1 0 (r4.map str).length) rfl (b8 rfl rfl (cu rfl rfl rfl (li (ki rfl (gb (path:=[]) rfl rfl aX rfl)) dx) (acx hr4) (.inr rfl) (ju rfl rfl rfl nW ec) rfl rfl rfl)) ?_
 refine cq 2 [2] [.hs 66 0 [] 1 0 (r4.map str).length] 98 ?_
 obtain rfl:=sI h
 exact cr rfl ⟨_,fin (vs:=[.hs 66 0 [] 1 0 (r4.map str).length]) rfl (gC (gk rfl (dZ rfl rfl)) eI) rfl (lY rfl (qM rfl) fD),vP fz⟩
theorem RC {G:bZ}:bV G 143 AW:=gT 1 1 (aO O0 (aO S4 bz)) cd Tryz.func143 (fun a r h=>Wl a r h)
def KA:Contract→List V:=oA aM
def KB (r:(List ac)):V×List V:=(.usl 1 (r.map str),[])
noncomputable def yJ :=bi [false] KA KB fun x=>xA x
theorem ZA {c_1:Contract}{r}(h:xA c_1=some r):yJ.F (KA c_1)=some (KB r):=aH (aI aU) h
noncomputable def ZC :=aF Tryz.f101
noncomputable def Qu :=cb [(142,Ii),(143,AW)]
def ZB (x:Contract)(r:(List ac)):St→Prop:=QF Qu Tryz.f101 [false] (KA x) (KB r)
theorem Qv (c_1:Contract):ch Qu 0 (ZB c_1) (cL (cL (cR (cL (cR (cR ZC)))))) 0 (qa c_1) (fun u=>(sT 25 [(3,.hs 1 0 [] 1 0 (u.map str).length)] [⟨0,1,u.map str⟩] 2)) fun x2=>(sT 25 [(3,.hs 1 0 [] 1 0 (x2.2.map str).length),(8,.isl false (c_1.Clauses.map ap)),(9,I (len c_1.Clauses)),(10,I x2.1)] [⟨0,1,x2.2.map str⟩] 2):=eg (GO c_1) fun {Q K} hK self ih x2 y h hr hn=>by
 unfold mZ at h
 refine cq 5 [11] [B (decide (x2.1<(len c_1.Clauses)))] 18 ?_
 refine sq h ?_ ?_<;>intro h
 ·refine aq 1 ?_
  refine aq 4 ?_
  obtain⟨e3,he3,h⟩:=bS h
  refine oq 34 (.iptr (au e3) 0) rfl (ak rfl rfl rfl (ba rfl rfl rfl rfl he3)) ?_
  refine ck 2 [5,13] [] [50] [] [.hp 50 0 [] 12 0 0,au e3] [some ⟨0,12,[.agg [str ([]),I (0),I (0),str ([]),I (0),I (0),I (0),str ([]),I (0),.isl true [],I (0),str ([])]]⟩] 66 (by kernel_rfl) ?_
  refine fP 50 [.agg [str ([]),I (0),I (0),str ([]),I (0),I (0),I (0),str ([]),I (0),.usl 4 (([]).map aC),I (0),str ([])]] rfl rfl (aP (hY (aP (.refl _) (aP (.refl _) (aP (.refl _) (aP (.refl _) (aP (.refl _) (aP (.refl _) (aP (.refl _) (aP (.refl _) (aP (.refl _) (aP (.nil _) (aP (.refl _) (aP (.refl _) eT))))))))))))) eT) ?_
  refine ck 2 [] [] [50] [] [] [some ⟨2,12,[au e3]⟩] 82 (by kernel_rfl) ?_
  refine dK [0,1,0,0,8,24,60,127,255] rfl (by decide +kernel) ?_
  refine dq [50] [] (.hp 50 0 [] 12 0 6) rfl (al rfl rfl rfl) ?_
  refine dq [50] [] (ao e3.When) rfl (aN rfl rfl) ?_
  refine dk 1 [16] [.hs 1 0 [] 1 0 (x2.2.map str).length] ?_
  refine dq [50] [] (.hp 50 0 [] 12 0 3) rfl (al rfl rfl rfl) ?_
  refine dq [50] [] (str e3.Action) rfl (aN rfl rfl) ?_
  refine dq [] [] (.hs 162 0 [] 1 0 1) rfl (eW rfl (mo (f:=I) (xs:=[]) (z:=str ([])) (es:=[str e3.Action]) (ws:=[str e3.Action]) rfl rfl rfl (by decide) rfl (d9 rfl) rfl)) ?_
  obtain⟨a4,ha4,h⟩:=bS h
  refine dq [1,162] [1] (.hs 178 0 [] 1 0 (a4.map str).length) rfl (ks rfl rfl rfl rfl rfl (oz (path:=[]) (f:=str) (xs:=x2.2) (ys:=[e3.Action]) rfl rfl (uT rfl rfl rfl) rfl rfl rfl aX rfl (by decide) l9 ha4 rfl rU)) ?_ (HN rfl (GY (path:=[]) (f:=str) (xs:=[e3.Action]) rfl rfl aX ni rfl))
  obtain⟨r5,hr5,h⟩:=bS h
  refine dq [178] [178] (.hs 194 0 [] 1 0 (r5.map str).length) rfl (b8 rfl rfl (cu rfl rfl rfl (bd (bM rfl) (li (ki rfl (gb (path:=[]) rfl rfl aX rfl)) dx)) (Zq hr5) (.inr rfl) (ju rfl rfl rfl nW ec) rfl rfl rfl)) ?_ (dF rfl rfl rfl rfl (bd (bM rfl) (li (ki rfl (gb (path:=[]) rfl rfl aX rfl)) dx)) (Zq hr5) (.inr rfl) rfl)
  refine dk 1 [3] [.hs 194 0 [] 1 0 (r5.map str).length] ?_
  refine de 226 rfl rfl ?_
  refine cq 5 [10] [I (ai (x2.1+1))] 258 ?_
  refine cZ ?_
  exact rf [3,8,9,10] [194] (ih _ _ h hr hn :)
 ·refine aq 1 ?_
  exact rf [3] [1] (hn _ (aj h) :) (hk:=hK)
theorem aan (c_1:Contract)(r:(List ac))(h:xA c_1=some r):br Qu Tryz.f101 [false] 0 (KA c_1) (KB r):=by
 show Run _ _ (ZB c_1 r) [.code ZC] _
 refine rI 25 [(0,aa c_1)] [] 1 ?_
 unfold xA at h
 refine ck 7 [1] [] [1] [] [.hp 1 0 [] 2 0 0] [some ⟨0,2,[aa c_1]⟩] 33 (by kernel_rfl) ?_
 refine oq 49 (.hs 33 0 [] 1 0 0) rfl (eW rfl (mo (f:=I) (xs:=[]) (z:=str ([])) (es:=[]) (ws:=[]) rfl rfl rfl (by decide) rfl (d9 rfl) rfl)) ?_
 refine cq 7 [3,8] [.hs 33 0 [] 1 0 0,.isl false (c_1.Clauses.map ap)] 97 ?_
 refine oq 113 (I (len c_1.Clauses)) rfl (bu rfl rfl rfl (bG rfl)) ?_
 refine cq 3 [10] [I (0)] 129 ?_
 obtain⟨y6,hy6,hy61,hy62⟩:=bJ h
 refine bN rfl ?_
 refine rf [3,8,9,10] [33] (Qv c_1 rfl (0,[]) _ hy6 (fun r' e st hq=>by rw[hy61 r' e] at hq;exact hq) fun u6 hu=>?_)
 replace h:=hy62 u6 hu
 refine cq 3 [23] [.hs 1 0 [] 1 0 (u6.map str).length] 18 ?_
 obtain⟨r7,hr7,h⟩:=bS h
 refine oq 34 (.hs 18 0 [] 1 0 (r7.map str).length) rfl (b8 rfl rfl (cu rfl rfl rfl (li (ki rfl (gb (path:=[]) rfl rfl aX rfl)) dx) (abw hr7) (.inr rfl) (ju rfl rfl rfl nW ec) rfl rfl rfl)) ?_
 refine cq 2 [2] [.hs 18 0 [] 1 0 (r7.map str).length] 50 ?_
 obtain rfl:=sI h
 exact cr rfl ⟨_,fin (vs:=[.hs 18 0 [] 1 0 (r7.map str).length]) rfl (gC (gk rfl (dZ rfl rfl)) eI) rfl (dw fD),fz⟩
theorem Ml {G:bZ}:bV G 101 yJ:=gT 1 0 (aO XX (aO RC bz)) cd Tryz.func101 (fun a r h=>aan a r h)
def Kc:Contract→List V:=oA aM
def Ke (r:Bool):V×List V:=(B r,[])
noncomputable def Ig :=bi [false] Kc Ke fun x=>Mf x
theorem aec {c_1:Contract}{r}(h:Mf c_1=some r):Ig.F (Kc c_1)=some (Ke r):=aH (aI aU) h
noncomputable def Kf :=aF Tryz.f47
noncomputable def Kd :=cb [(98,Ik),(100,Ir),(101,yJ),(99,iJ)]
def Gw (x:Contract)(r:Bool):St→Prop:=QF Kd Tryz.f47 [false] (Kc x) (Ke r)
theorem Qi (c_1:Contract):ch Kd 0 (Gw c_1) (cL (cL (cR (cL (cR (cR Kf)))))) 0 (ou c_1) (fun u=>(sT 30 [(1,.hp 1 0 [] 2 0 0)] [⟨0,2,[aa c_1]⟩] 2)) fun x4=>(sT 30 [(1,.hp 1 0 [] 2 0 0),(17,I (len c_1.Clauses)),(18,I x4)] [⟨0,2,[aa c_1]⟩] 2):=eg (Gx c_1) fun {Q K} hK self ih x4 y h hr hn=>by
 unfold mW at h
 refine cq 5 [19] [B (decide (x4<(len c_1.Clauses)))] 18 ?_
 refine sq h ?_ ?_<;>intro h
 ·refine aq 1 ?_
  refine cq 11 [21,22] [aa c_1,I x4] 82 ?_
  obtain⟨r5,hr5,h⟩:=bS h
  refine oq 98 (B r5) rfl (cP (aeq hr5)) ?_
  refine cq 2 [24] [B (!r5)] 114 ?_
  refine sq h ?_ ?_<;>intro h
  ·refine cq 4 [2] [B false] 130 ?_
   exact cr rfl (hr _ (aj h) _ (qp [B false]))
  ·refine aq 1 ?_
   refine cq 5 [18] [I (ai (x4+1))] 146 ?_
   refine cZ ?_
   exact rf [1,17,18] [1] (ih _ _ h hr hn :)
 ·refine aq 1 ?_
  exact rf [1] [1] (hn _ (aj h) :) (hk:=hK)
theorem aaa (c_1:Contract)(r:Bool)(h:Mf c_1=some r):br Kd Tryz.f47 [false] 0 (Kc c_1) (Ke r):=by
 show Run _ _ (Gw c_1 r) [.code Kf] _
 refine rI 30 [(0,aa c_1)] [] 1 ?_
 unfold Mf at h
 refine ck 10 [1,5] [] [1] [] [.hp 1 0 [] 2 0 0,.isl false (c_1.Parties.map str)] [some ⟨0,2,[aa c_1]⟩] 65 (by kernel_rfl) ?_
 obtain⟨r2,hr2,h⟩:=bS h
 refine oq 81 (B r2) rfl (cP (aee hr2)) ?_
 refine cq 2 [8] [B (!r2)] 113 ?_
 obtain⟨y3,hy3,hy31,hy32⟩:=bJ h
 have j3:∀u3,y3=.inr u3→Run Kd 0 (Gw c_1 r) (.code (cR (cL (cR Kf)))::.code (cR (cR Kf))::[]) (sT 30 [(1,.hp 1 0 [] 2 0 0),(14,B u3)] [⟨0,2,[aa c_1]⟩] 2):=by
  intro u3 hu
  replace h:=hy32 u3 hu
  refine sq h ?_ ?_<;>intro h
  ·refine cq 4 [2] [B false] 18 ?_
   obtain rfl:=sI h
   exact rP [B false]
  ·refine aq 1 ?_
   refine cq 5 [16] [.isl false (c_1.Clauses.map ap)] 34 ?_
   refine oq 50 (I (len c_1.Clauses)) rfl (bu rfl rfl rfl (bG rfl)) ?_
   refine cq 3 [18] [I (0)] 66 ?_
   obtain⟨y6,hy6,hy61,hy62⟩:=bJ h
   refine bN rfl ?_
   refine rf [1,17,18] [1] (Qi c_1 rfl 0 _ hy6 (fun r' e st hq=>by rw[hy61 r' e] at hq;exact hq) fun u6 hu=>?_)
   replace h:=hy62 u6 hu
   refine cq 3 [26] [aa c_1] 18 ?_
   obtain⟨r7,hr7,h⟩:=bS h
   refine oq 34 (.hs 18 0 [] 1 0 (r7.map str).length) rfl (cP (ZA hr7)) ?_
   refine oq 50 (I (len r7)) rfl (bu rfl rfl rfl (vQ (f:=str) (xs:=r7) rfl rfl)) ?_
   refine cq 3 [2] [B (decide ((len r7)≤16))] 82 ?_
   obtain rfl:=sI h
   exact rP [B (decide ((len r7)≤16))]
 have r3:∀r',y3=.inl r'→∀st,Gw c_1 r' st→(Gw c_1 r) st:=fun r' e st hq=>by rw[hy31 r' e] at hq;exact hq
 replace h:=hy3
 refine sp 8 h rfl ?_ ?_<;>intro h
 ·refine cq 7 [14] [B true] 209 ?_
  exact rf [1,14] [1] (j3 _ (aj h) :)
 ·refine cq 2 [10] [.isl false (c_1.Clauses.map ap)] 145 ?_
  refine oy 161 (I (len c_1.Clauses)) rfl (bu rfl rfl rfl (bG rfl)) ?_
  obtain⟨r8,hr8,h⟩:=bS h
  refine oy 177 (B r8) rfl (cP (iI hr8)) ?_
  refine cq 3 [14] [B (!r8)] 209 ?_
  exact rf [1,14] [1] (j3 _ (aj h) :)
theorem XV {G:bZ}:bV G 47 Ig:=gT 1 0 (aO XZ (aO X5 (aO Ml (aO jd bz)))) cd Tryz.func47 (fun a r h=>aaa a r h)
def KQ:(List ac)→List V:=oA (fG str)
def KS (r:Bool):V×List V:=(B r,[])
noncomputable def Iy :=bi [false] KQ KS fun x=>Ms x
theorem aeD {cj:List ac}{r}(h:Ms cj=some r):Iy.F (KQ cj)=some (KS r):=aH (aI (bW bT)) h
noncomputable def ZI :=aF Tryz.f158
noncomputable abbrev uo :=cL (cL (cR (cL (cR ZI))))
noncomputable abbrev U0 :=cR (cR (cL (cL (cR (cR uo)))))
noncomputable def GQ :=cb [(81,re)]
def KR (x:(List ac))(r:Bool):St→Prop:=QF GQ Tryz.f158 [false] (KQ x) (KS r)
theorem Qw (cj:List ac):ch GQ 0 (KR cj) uo 0 (ox cj) (fun u=>(sT 32 [(0,.isl false (cj.map str))] [] 1)) fun x2=>(sT 32 [(0,.isl false (cj.map str)),(5,.isl false (cj.map str)),(6,I (len cj)),(7,I x2)] [] 1):=eg (GR cj) fun {Q K} hK self ih x2 y h hr hn=>by
 unfold na at h
 refine cq 5 [8] [B (decide (x2<(len cj)))] 17 ?_
 refine sq h ?_ ?_<;>intro h
 ·refine aq 1 ?_
  refine cq 5 [9] [I x2] 33 ?_
  obtain⟨e3,he3,h⟩:=bS h
  refine oq 49 (.iptr (str e3) 0) rfl (ak rfl rfl rfl (ba rfl rfl rfl rfl he3)) ?_
  refine cq 7 [3,4,12] [I x2,str e3,str e3] 113 ?_
  obtain⟨r4,hr4,h⟩:=bS h
  refine oq 129 (B r4) rfl (cP (Gy hr4)) ?_
  refine cq 2 [15] [B (!r4)] 161 ?_
  obtain⟨y5,hy5,hy51,hy52⟩:=bL h
  have j5:∀u5,y5=.inr u5→Run GQ 0 Q (.code U0::.blk 1::.code (cR (cR (cR uo)))::.lp uo::.blk 0::K) (sT 32 [(0,.isl false (cj.map str)),(5,.isl false (cj.map str)),(6,I (len cj)),(7,I x2),(27,B u5)] [] 1):=by
   intro u5 hu
   replace h:=hy52 u5 hu
   refine sq h ?_ ?_<;>intro h
   ·refine cq 4 [2] [B false] 17 ?_
    exact cr rfl (hr _ (aj h) _ (qp [B false]))
   ·refine aq 1 ?_
    refine cq 5 [7] [I (ai (x2+1))] 33 ?_
    refine cZ ?_
    exact rf [0,5,6,7] [] (ih _ _ h hr hn :)
  have r5:∀r',y5=.inl r'→∀st,KR cj r' st→Q st:=fun r' e st hq=>hr r' (hy51 r' e) st hq
  replace h:=hy5
  refine sp 15 h rfl ?_ ?_<;>intro h
  ·refine cq 13 [27] [B true] 353 ?_
   exact rf [0,5,6,7,27] [] (j5 _ (aj h) :)
  ·refine cq 3 [18] [B (decide (x2>0))] 209 ?_
   obtain⟨y6,hy6,hy61,hy62⟩:=bL h
   have j6:∀u6,y6=.inr u6→Run GQ 0 Q (.code U0::.blk 1::.code (cR (cR (cR uo)))::.lp uo::.blk 0::K) (sT 32 [(0,.isl false (cj.map str)),(5,.isl false (cj.map str)),(6,I (len cj)),(7,I x2),(27,B u6)] [] 1):=by
    intro u6 hu
    replace h:=hy62 u6 hu
    exact rf [0,5,6,7,27] [] (j5 _ (aj h) :)
   have r6:∀r',y6=.inl r'→∀st,KR cj r' st→Q st:=fun r' e st hq=>r5 r' (hy61 r' e) st hq
   replace h:=hy6
   refine sp 18 h rfl ?_ ?_<;>intro h
   ·refine cq 4 [19,20,22] [str e3,.isl false (cj.map str),I (ai (x2 - 1))] 273 ?_
    obtain⟨e7,he7,h⟩:=bS h
    refine oy 289 (.iptr (str e7) 0) rfl (ak rfl rfl rfl (ba rfl rfl rfl rfl he7)) ?_
    refine cq 5 [27] [B (Op.bytesLess e3 e7||e3==e7)] 353 ?_
    exact rf [0,5,6,7,27] [] (j6 _ (aj h) :)
   ·refine cq 10 [27] [B false] 353 ?_
    exact rf [0,5,6,7,27] [] (j6 _ (aj h) :)
 ·refine aq 1 ?_
  exact rf [0] [] (hn _ (aj h) :) (hk:=hK)
theorem aav (cj:List ac)(r:Bool)(h:Ms cj=some r):br GQ Tryz.f158 [false] 0 (KQ cj) (KS r):=by
 show Run _ _ (KR cj r) [.code ZI] _
 refine rI 32 [(0,.isl false (cj.map str))] [] 1 ?_
 unfold Ms at h
 refine cq 8 [5] [.isl false (cj.map str)] 33 ?_
 refine oq 49 (I (len cj)) rfl (bu rfl rfl rfl (bG rfl)) ?_
 refine cq 3 [7] [I (0)] 65 ?_
 obtain⟨y8,hy8,hy81,hy82⟩:=bJ h
 refine bN rfl ?_
 refine rf [0,5,6,7] [] (Qw cj rfl 0 _ hy8 (fun r' e st hq=>by rw[hy81 r' e] at hq;exact hq) fun u8 hu=>?_)
 replace h:=hy82 u8 hu
 refine cq 3 [29] [.isl false (cj.map str)] 17 ?_
 refine oq 33 (I (len cj)) rfl (bu rfl rfl rfl (bG rfl)) ?_
 refine cq 3 [2] [B (decide ((len cj)≤16))] 65 ?_
 obtain rfl:=sI h
 exact rP [B (decide ((len cj)≤16))]
theorem Ya {G:bZ}:bV G 158 Iy:=gT 1 0 (aO vt bz) cd Tryz.func158 (fun a r h=>aav a r h)
def Dk:(ac×(List ac))→List V:=cA str (oA (fun x:List ac=>.iptr ((fG str) x) 0))
def Dl (r:Bool):V×List V:=(B r,[])
noncomputable def AQ :=bi [false,false] Dk Dl fun x=>AP x.1 x.2
theorem abp {f_1:ac}{a_2:List ac}{r}(h:AP f_1 a_2=some r):AQ.F (Dk (f_1,a_2))=some (Dl r):=aH (aJ bT (aI (kz (bW bT)))) h
noncomputable def abr :=aF Tryz.f160
noncomputable def Rx :=cb [(129,rj)]
def abq (x:ac×(List ac))(r:Bool):St→Prop:=QF Rx Tryz.f160 [false,false] (Dk x) (Dl r)
theorem Wi (f_1:ac)(a_2:List ac)(r:Bool)(h:AP f_1 a_2=some r):br Rx Tryz.f160 [false,false] 0 (Dk (f_1,a_2)) (Dl r):=by
 show Run _ _ (abq (f_1,a_2) r) [.code abr] _
 refine rI 8 [(0,str f_1),(1,.iptr (.isl false (a_2.map str)) 0)] [] 1 ?_
 unfold AP at h
 refine cq 8 [4,5] [.isl false (a_2.map str),str f_1] 49 ?_
 obtain⟨r3,hr3,h⟩:=bS h
 refine oq 65 (B r3) rfl (cP (Ly hr3)) ?_
 refine cq 3 [3] [B (!r3)] 97 ?_
 obtain rfl:=sI h
 exact rP [B (!r3)]
theorem Ry {G:bZ}:bV G 160 AQ:=gT 2 0 (aO wS bz) cd Tryz.func160 (fun a r h=>Wi a.1 a.2 r h)
def ES:((List ac)×(List ac))→List V:=cA (fG str) (oA (fun x:(List ac)=>(.fn 160 [.iptr ((fG str) x) 0]:V)))
def ET (r:Int):V×List V:=(I r,[])
noncomputable def BZ :=bi [false,false] ES ET fun x=>H5 x.1 x.2
theorem acU {s_1:List ac}{f_2:(List ac)}{r}(h:H5 s_1 f_2=some r):BZ.F (ES (s_1,f_2))=some (ET r):=aH (aJ (bW bT) (aI (iD (bW bT)))) h
noncomputable def Tx :=aF Tryz.f182
noncomputable def LE :=cb [(160,AQ)]
def Tw (x:(List ac)×(List ac))(r:Int):St→Prop:=QF LE Tryz.f182 [false,false] (ES x) (ET r)
theorem N1 (s_1:List ac)(f_2:(List ac)):ch LE 0 (Tw (s_1,f_2)) (cL (cL (cR (cL (cR Tx))))) 0 (tK s_1 f_2) (fun u=>(sT 19 [] [] 1)) fun x3=>(sT 19 [(0,.isl false (s_1.map str)),(1,.fn 160 [.iptr (.isl false (f_2.map str)) 0]),(7,I (len s_1)),(8,I x3)] [] 1):=eg (zy s_1 f_2) fun {Q K} hK self ih x3 y h hr hn=>by
 unfold nG at h
 refine cq 5 [9] [B (decide (x3<(len s_1)))] 17 ?_
 refine sq h ?_ ?_<;>intro h
 ·refine aq 1 ?_
  refine cq 12 [5,11,12,13] [I x3,.fn 160 [.iptr (.isl false (f_2.map str)) 0],.isl false (s_1.map str),I x3] 97 ?_
  obtain⟨e4,he4,h⟩:=bS h
  refine oq 113 (.iptr (str e4) 0) rfl (ak rfl rfl rfl (ba rfl rfl rfl rfl he4)) ?_
  refine cq 1 [15] [str e4] 129 ?_
  obtain⟨r5,hr5,h⟩:=bS h
  refine oq 145 (B r5) rfl (cP (abp hr5)) ?_
  refine aq 1 ?_
  refine sq h ?_ ?_<;>intro h
  ·refine cq 5 [4] [I x3] 177 ?_
   exact cr rfl (hr _ (aj h) _ (qp [I x3]))
  ·refine aq 1 ?_
   refine cq 5 [8] [I (ai (x3+1))] 177 ?_
   refine cZ ?_
   exact rf [0,1,7,8] [] (ih _ _ h hr hn :)
 ·refine aq 1 ?_
  exact rf [] [] (hn _ (aj h) :) (hk:=hK)
theorem Xd (s_1:List ac)(f_2:(List ac))(r:Int)(h:H5 s_1 f_2=some r):br LE Tryz.f182 [false,false] 0 (ES (s_1,f_2)) (ET r):=by
 show Run _ _ (Tw (s_1,f_2) r) [.code Tx] _
 refine rI 19 [(0,.isl false (s_1.map str)),(1,.fn 160 [.iptr (.isl false (f_2.map str)) 0])] [] 1 ?_
 unfold H5 at h
 refine cq 8 [6] [.isl false (s_1.map str)] 33 ?_
 refine oq 49 (I (len s_1)) rfl (bu rfl rfl rfl (bG rfl)) ?_
 refine cq 3 [8] [I (0)] 65 ?_
 obtain⟨y6,hy6,hy61,hy62⟩:=bJ h
 refine bN rfl ?_
 refine rf [0,1,7,8] [] (N1 s_1 f_2 rfl 0 _ hy6 (fun r' e st hq=>by rw[hy61 r' e] at hq;exact hq) fun u6 hu=>?_)
 replace h:=hy62 u6 hu
 refine cq 4 [4] [I (-1)] 17 ?_
 obtain rfl:=sI h
 exact rP [I (-1)]
theorem Ty {G:bZ}:bV G 182 BZ:=gT 2 0 (aO Ry bz) cd Tryz.func182 (fun a r h=>Xd a.1 a.2 r h)
def EE:((List ac)×(List ac))→List V:=cA (fG str) (oA (fun x:(List ac)=>(.fn 160 [.iptr ((fG str) x) 0]:V)))
def EF (r:Bool):V×List V:=(B r,[])
noncomputable def BS :=bi [false,false] EE EF fun x=>HY x.1 x.2
theorem acK {s_1:List ac}{f_2:(List ac)}{r}(h:HY s_1 f_2=some r):BS.F (EE (s_1,f_2))=some (EF r):=aH (aJ (bW bT) (aI (iD (bW bT)))) h
noncomputable def acM :=aF Tryz.f159
noncomputable def Td :=cb [(182,BZ)]
def acL (x:(List ac)×(List ac))(r:Bool):St→Prop:=QF Td Tryz.f159 [false,false] (EE x) (EF r)
theorem W5 (s_1:List ac)(f_2:(List ac))(r:Bool)(h:HY s_1 f_2=some r):br Td Tryz.f159 [false,false] 0 (EE (s_1,f_2)) (EF r):=by
 show Run _ _ (acL (s_1,f_2) r) [.code acM] _
 refine rI 9 [(0,.isl false (s_1.map str)),(1,.fn 160 [.iptr (.isl false (f_2.map str)) 0])] [] 1 ?_
 unfold HY at h
 refine cq 8 [5,6] [.isl false (s_1.map str),.fn 160 [.iptr (.isl false (f_2.map str)) 0]] 49 ?_
 obtain⟨r3,hr3,h⟩:=bS h
 refine oq 65 (I r3) rfl (b8 rfl rfl (cu rfl rfl rfl (bd (bM rfl) (bd (l4 (dS (fS rfl) gL)) dx)) (acU hr3) (.inr rfl) ec rfl rfl rfl)) ?_
 refine cq 3 [4] [B (decide (r3≥0))] 97 ?_
 obtain rfl:=sI h
 exact rP [B (decide (r3≥0))]
theorem Te {G:bZ}:bV G 159 BS:=gT 2 0 (aO Ty bz) cd Tryz.func159 (fun a r h=>W5 a.1 a.2 r h)
def Dr:(List Int)→List V:=oA (fG I)
def Ds (r:Int):V×List V:=(I r,[])
noncomputable def AX :=bi [false] Dr Ds fun x=>wv x
theorem abz {ay:List Int}{r}(h:wv ay=some r):AX.F (Dr ay)=some (Ds r):=aH (aI (bW bo)) h
noncomputable def RE :=aF Tryz.f161
noncomputable def K6 :=cb []
def RD (x:(List Int))(r:Int):St→Prop:=QF K6 Tryz.f161 [false] (Dr x) (Ds r)
theorem NG (ay:List Int):ch K6 0 (RD ay) (cL (cL (cR (cL (cR (cR RE)))))) 0 (HQ ay) (fun u=>(sT 17 [(3,I u)] [] 1)) fun x2=>(sT 17 [(3,I x2.1),(6,.isl false (ay.map I)),(7,I (len ay)),(8,I x2.2)] [] 1):=eg (NF ay) fun {Q K} hK self ih x2 y h hr hn=>by
 unfold rZ at h
 refine cq 5 [9] [B (decide (x2.2<(len ay)))] 17 ?_
 refine sq h ?_ ?_<;>intro h
 ·refine aq 1 ?_
  refine aq 4 ?_
  obtain⟨e3,he3,h⟩:=bS h
  refine oq 33 (.iptr (I e3) 0) rfl (ak rfl rfl rfl (ba rfl rfl rfl rfl he3)) ?_
  refine cq 14 [3,8] [I (ai (x2.1+e3)),I (ai (x2.2+1))] 161 ?_
  refine cZ ?_
  exact rf [3,6,7,8] [] (ih _ _ h hr hn :)
 ·refine aq 1 ?_
  exact rf [3] [] (hn _ (aj h) :) (hk:=hK)
theorem Wn (ay:List Int)(r:Int)(h:wv ay=some r):br K6 Tryz.f161 [false] 0 (Dr ay) (Ds r):=by
 show Run _ _ (RD ay r) [.code RE] _
 refine rI 17 [(0,.isl false (ay.map I))] [] 1 ?_
 unfold wv at h
 refine cq 12 [3,6] [I (0),.isl false (ay.map I)] 49 ?_
 refine oq 65 (I (len ay)) rfl (bu rfl rfl rfl (bG rfl)) ?_
 refine cq 3 [8] [I (0)] 81 ?_
 obtain⟨y4,hy4,hy41,hy42⟩:=bJ h
 refine bN rfl ?_
 refine rf [3,6,7,8] [] (NG ay rfl (0,0) _ hy4 (fun r' e st hq=>by rw[hy41 r' e] at hq;exact hq) fun u4 hu=>?_)
 replace h:=hy42 u4 hu
 refine cq 5 [2] [I u4] 33 ?_
 obtain rfl:=sI h
 exact rP [I u4]
theorem RF {G:bZ}:bV G 161 AX:=gT 1 0 bz cd Tryz.func161 (fun a r h=>Wn a r h)
def KK:(Clause×Contract×Int)→List V:=cA ap (cA (fun x:Contract=>.iptr (aM x) 0) (oA (fun x:Int=>.iptr (I x) 0)))
def KL (r:Bool):V×List V:=(B r,[])
noncomputable def Iv :=bi [false,false,false] KK KL fun x=>Mq x.1 x.2.1 x.2.2
theorem aew {x_1:Clause}{a_2:Contract}{a_3:Int}{r}(h:Mq x_1 a_2 a_3=some r):Iv.F (KK (x_1,a_2,a_3))=some (KL r):=aH (aJ dI (aJ (kz aU) (aI (kz bo)))) h
noncomputable def aey :=aF Tryz.f195
noncomputable def ZG :=cb []
def aex (x:Clause×Contract×Int)(r:Bool):St→Prop:=QF ZG Tryz.f195 [false,false,false] (KK x) (KL r)
theorem aas (x_1:Clause)(a_2:Contract)(a_3:Int)(r:Bool)(h:Mq x_1 a_2 a_3=some r):br ZG Tryz.f195 [false,false,false] 0 (KK (x_1,a_2,a_3)) (KL r):=by
 show Run _ _ (aex (x_1,a_2,a_3) r) [.code aey] _
 refine rI 14 [(0,au x_1),(1,.iptr (aa a_2) 0),(2,.iptr (I a_3) 0)] [] 1 ?_
 unfold Mq at h
 refine ck 6 [3] [] [1] [] [.hp 1 0 [] 12 0 0] [some ⟨0,12,[au x_1]⟩] 33 (by kernel_rfl) ?_
 refine dK [0,1,0,4,0,28,60,124,255,511] rfl (by decide +kernel) ?_
 refine dq [1] [] (.hp 1 0 [] 12 0 11) rfl (al rfl rfl rfl) ?_
 refine dq [1] [] (str x_1.Repair) rfl (aN rfl rfl) ?_
 refine dq [] [] (.iptr (aa a_2) 1) rfl (al rfl rfl rfl) ?_
 refine dq [] [] (.isl false (a_2.Clauses.map ap)) rfl (aN rfl rfl) ?_
 refine dq [] [] (I a_3) rfl (aN rfl rfl) ?_
 obtain⟨e4,he4,h⟩:=bS h
 refine dq [] [] (.iptr (au e4) 0) rfl (ak rfl rfl rfl (ba rfl rfl rfl rfl he4)) ?_
 refine dq [] [] (.iptr (au e4) 0) rfl (al rfl rfl rfl) ?_
 refine dq [] [] (str e4.Id) rfl (aN rfl rfl) ?_
 refine dk 2 [4,13] [B (x_1.Repair==e4.Id),B (x_1.Repair==e4.Id)] ?_
 refine de 193 rfl rfl ?_
 obtain rfl:=sI h
 exact rP [B (x_1.Repair==e4.Id)]
theorem X7 {G:bZ}:bV G 195 Iv:=gT 3 0 bz cd Tryz.func195 (fun a r h=>aas a.1 a.2.1 a.2.2 r h)
def EK:((List Clause)×(Contract×Int))→List V:=cA (fG ap) (oA (fun x:Contract×Int=>(.fn 195 [.iptr (aM x.1) 0,.iptr (I x.2) 0]:V)))
def EL (r:Int):V×List V:=(I r,[])
noncomputable def BU :=bi [false,false] EK EL fun x=>H0 x.1 x.2
theorem acQ {s_1:List Clause}{f_2:Contract×Int}{r}(h:H0 s_1 f_2=some r):BU.F (EK (s_1,f_2))=some (EL r):=aH (aJ (bW dI) (aI (IK aU bo))) h
noncomputable def Tk :=aF Tryz.f110
noncomputable def LA :=cb [(195,Iv)]
def Tj (x:(List Clause)×(Contract×Int))(r:Int):St→Prop:=QF LA Tryz.f110 [false,false] (EK x) (EL r)
theorem NX (s_1:List Clause)(f_2:Contract×Int):ch LA 0 (Tj (s_1,f_2)) (cL (cL (cR (cL (cR Tk))))) 0 (tG s_1 f_2) (fun u=>(sT 19 [] [] 1)) fun x3=>(sT 19 [(0,.isl false (s_1.map ap)),(1,.fn 195 [.iptr (aa f_2.1) 0,.iptr (I f_2.2) 0]),(7,I (len s_1)),(8,I x3)] [] 1):=eg (zt s_1 f_2) fun {Q K} hK self ih x3 y h hr hn=>by
 unfold nC at h
 refine cq 5 [9] [B (decide (x3<(len s_1)))] 17 ?_
 refine sq h ?_ ?_<;>intro h
 ·refine aq 1 ?_
  refine cq 12 [5,11,12,13] [I x3,.fn 195 [.iptr (aa f_2.1) 0,.iptr (I f_2.2) 0],.isl false (s_1.map ap),I x3] 97 ?_
  obtain⟨e4,he4,h⟩:=bS h
  refine oq 113 (.iptr (au e4) 0) rfl (ak rfl rfl rfl (ba rfl rfl rfl rfl he4)) ?_
  refine cq 1 [15] [au e4] 129 ?_
  obtain⟨r5,hr5,h⟩:=bS h
  refine oq 145 (B r5) rfl (cP (aew hr5)) ?_
  refine aq 1 ?_
  refine sq h ?_ ?_<;>intro h
  ·refine cq 5 [4] [I x3] 177 ?_
   exact cr rfl (hr _ (aj h) _ (qp [I x3]))
  ·refine aq 1 ?_
   refine cq 5 [8] [I (ai (x3+1))] 177 ?_
   refine cZ ?_
   exact rf [0,1,7,8] [] (ih _ _ h hr hn :)
 ·refine aq 1 ?_
  exact rf [] [] (hn _ (aj h) :) (hk:=hK)
theorem W8 (s_1:List Clause)(f_2:Contract×Int)(r:Int)(h:H0 s_1 f_2=some r):br LA Tryz.f110 [false,false] 0 (EK (s_1,f_2)) (EL r):=by
 show Run _ _ (Tj (s_1,f_2) r) [.code Tk] _
 refine rI 19 [(0,.isl false (s_1.map ap)),(1,.fn 195 [.iptr (aa f_2.1) 0,.iptr (I f_2.2) 0])] [] 1 ?_
 unfold H0 at h
 refine cq 8 [6] [.isl false (s_1.map ap)] 33 ?_
 refine oq 49 (I (len s_1)) rfl (bu rfl rfl rfl (bG rfl)) ?_
 refine cq 3 [8] [I (0)] 65 ?_
 obtain⟨y6,hy6,hy61,hy62⟩:=bJ h
 refine bN rfl ?_
 refine rf [0,1,7,8] [] (NX s_1 f_2 rfl 0 _ hy6 (fun r' e st hq=>by rw[hy61 r' e] at hq;exact hq) fun u6 hu=>?_)
 replace h:=hy62 u6 hu
 refine cq 4 [4] [I (-1)] 17 ?_
 obtain rfl:=sI h
 exact rP [I (-1)]
theorem Tl {G:bZ}:bV G 110 BU:=gT 2 0 (aO X7 bz) cd Tryz.func110 (fun a r h=>W8 a.1 a.2 r h)
def Ew:((List Clause)×(Contract×Int))→List V:=cA (fG ap) (oA (fun x:Contract×Int=>(.fn 195 [.iptr (aM x.1) 0,.iptr (I x.2) 0]:V)))
def Ex (r:Bool):V×List V:=(B r,[])
noncomputable def BO :=bi [false,false] Ew Ex fun x=>HU x.1 x.2
theorem acy {s_1:List Clause}{f_2:Contract×Int}{r}(h:HU s_1 f_2=some r):BO.F (Ew (s_1,f_2))=some (Ex r):=aH (aJ (bW dI) (aI (IK aU bo))) h
noncomputable def acA :=aF Tryz.f194
noncomputable def S5 :=cb [(110,BU)]
def acz (x:(List Clause)×(Contract×Int))(r:Bool):St→Prop:=QF S5 Tryz.f194 [false,false] (Ew x) (Ex r)
theorem W1 (s_1:List Clause)(f_2:Contract×Int)(r:Bool)(h:HU s_1 f_2=some r):br S5 Tryz.f194 [false,false] 0 (Ew (s_1,f_2)) (Ex r):=by
 show Run _ _ (acz (s_1,f_2) r) [.code acA] _
 refine rI 9 [(0,.isl false (s_1.map ap)),(1,.fn 195 [.iptr (aa f_2.1) 0,.iptr (I f_2.2) 0])] [] 1 ?_
 unfold HU at h
 refine cq 8 [5,6] [.isl false (s_1.map ap),.fn 195 [.iptr (aa f_2.1) 0,.iptr (I f_2.2) 0]] 49 ?_
 obtain⟨r3,hr3,h⟩:=bS h
 refine oq 65 (I r3) rfl (b8 rfl rfl (cu rfl rfl rfl (bd (bM rfl) (bd (l4 (dS (fS rfl) (dS (fS rfl) gL))) dx)) (acQ hr3) (.inr rfl) ec rfl rfl rfl)) ?_
 refine cq 3 [4] [B (decide (r3≥0))] 97 ?_
 obtain rfl:=sI h
 exact rP [B (decide (r3≥0))]
theorem S6 {G:bZ}:bV G 194 BO:=gT 2 0 (aO Tl bz) cd Tryz.func194 (fun a r h=>W1 a.1 a.2 r h)
def KI:(Contract×Int)→List V:=cA aM (oA I)
def KJ (r:Bool):V×List V:=(B r,[])
noncomputable def Iu :=bi [false,false] KI KJ fun x=>Mp x.1 x.2
theorem aet {c_1:Contract}{i_2:Int}{r}(h:Mp c_1 i_2=some r):Iu.F (KI (c_1,i_2))=some (KJ r):=aH (aJ aU (aI bo)) h
noncomputable def aev :=aF Tryz.f183
noncomputable def ZF :=cb [(194,BO)]
def aeu (x:Contract×Int)(r:Bool):St→Prop:=QF ZF Tryz.f183 [false,false] (KI x) (KJ r)
theorem aar (c_1:Contract)(i_2:Int)(r:Bool)(h:Mp c_1 i_2=some r):br ZF Tryz.f183 [false,false] 0 (KI (c_1,i_2)) (KJ r):=by
 show Run _ _ (aeu (c_1,i_2) r) [.code aev] _
 refine rI 9 [(0,aa c_1),(1,I i_2)] [] 1 ?_
 unfold Mp at h
 refine ck 11 [6,7] [] [1,17] [] [.isl false (c_1.Clauses.map ap),.fn 195 [.hp 1 0 [] 2 0 0,.hp 17 0 [] 1 0 0]] [some ⟨0,2,[aa c_1]⟩,some ⟨0,1,[I i_2]⟩] 97 (by kernel_rfl) ?_
 obtain⟨r3,hr3,h⟩:=bS h
 refine oq 113 (B r3) rfl (b8 rfl rfl (cu rfl rfl rfl (bd (bM rfl) (bd (l4 (dS (l6 (path:=[]) rfl rfl aX rfl rfl) (dS (l6 (path:=[]) rfl rfl aX rfl rfl) gL))) dx)) (acy hr3) (.inl rfl) ec rfl rfl rfl)) ?_
 refine cq 2 [4] [B r3] 129 ?_
 obtain rfl:=sI h
 exact rP [B r3]
theorem X6 {G:bZ}:bV G 183 Iu:=gT 2 0 (aO S6 bz) cd Tryz.func183 (fun a r h=>aar a.1 a.2 r h)
def KO:(Duty×Duty)→List V:=cA ah (oA (fun x:Duty=>.iptr (ah x) 0))
def KP (r:Bool):V×List V:=(B r,[])
noncomputable def Ix :=bi [false,false] KO KP fun x=>Pg x.1 x.2
theorem aeA {jX:Duty}{a_2:Duty}{r}(h:Pg jX a_2=some r):Ix.F (KO (jX,a_2))=some (KP r):=aH (aJ ey (aI (kz ey))) h
noncomputable def aeC :=aF Tryz.f185
noncomputable def ZH :=cb []
def aeB (x:Duty×Duty)(r:Bool):St→Prop:=QF ZH Tryz.f185 [false,false] (KO x) (KP r)
theorem aau (jX:Duty)(a_2:Duty)(r:Bool)(h:Pg jX a_2=some r):br ZH Tryz.f185 [false,false] 0 (KO (jX,a_2)) (KP r):=by
 show Run _ _ (aeB (jX,a_2) r) [.code aeC] _
 refine rI 9 [(0,ah jX),(1,.iptr (ah a_2) 0)] [] 1 ?_
 unfold Pg at h
 refine cq 14 [3] [B (jX.Clause==a_2.Clause)] 129 ?_
 obtain rfl:=sI h
 exact rP [B (jX.Clause==a_2.Clause)]
theorem X9 {G:bZ}:bV G 185 Ix:=gT 2 0 bz cd Tryz.func185 (fun a r h=>aau a.1 a.2 r h)
def EM:((List Duty)×Duty)→List V:=cA (fG ah) (oA (fun x:Duty=>(.fn 185 [.iptr (ah x) 0]:V)))
def EN (r:Int):V×List V:=(I r,[])
noncomputable def BV :=bi [false,false] EM EN fun x=>H1 x.1 x.2
theorem acR {s_1:List Duty}{f_2:Duty}{r}(h:H1 s_1 f_2=some r):BV.F (EM (s_1,f_2))=some (EN r):=aH (aJ (bW ey) (aI (iD ey))) h
noncomputable def Tn :=aF Tryz.f196
noncomputable def LB :=cb [(185,Ix)]
def Tm (x:(List Duty)×Duty)(r:Int):St→Prop:=QF LB Tryz.f196 [false,false] (EM x) (EN r)
theorem NY (s_1:List Duty)(f_2:Duty):ch LB 0 (Tm (s_1,f_2)) (cL (cL (cR (cL (cR Tn))))) 0 (tH s_1 f_2) (fun u=>(sT 19 [] [] 1)) fun x3=>(sT 19 [(0,.isl false (s_1.map ah)),(1,.fn 185 [.iptr (ah f_2) 0]),(7,I (len s_1)),(8,I x3)] [] 1):=eg (zu s_1 f_2) fun {Q K} hK self ih x3 y h hr hn=>by
 unfold nD at h
 refine cq 5 [9] [B (decide (x3<(len s_1)))] 17 ?_
 refine sq h ?_ ?_<;>intro h
 ·refine aq 1 ?_
  refine cq 12 [5,11,12,13] [I x3,.fn 185 [.iptr (ah f_2) 0],.isl false (s_1.map ah),I x3] 97 ?_
  obtain⟨e4,he4,h⟩:=bS h
  refine oq 113 (.iptr (ah e4) 0) rfl (ak rfl rfl rfl (ba rfl rfl rfl rfl he4)) ?_
  refine cq 1 [15] [ah e4] 129 ?_
  obtain⟨r5,hr5,h⟩:=bS h
  refine oq 145 (B r5) rfl (cP (aeA hr5)) ?_
  refine aq 1 ?_
  refine sq h ?_ ?_<;>intro h
  ·refine cq 5 [4] [I x3] 177 ?_
   exact cr rfl (hr _ (aj h) _ (qp [I x3]))
  ·refine aq 1 ?_
   refine cq 5 [8] [I (ai (x3+1))] 177 ?_
   refine cZ ?_
   exact rf [0,1,7,8] [] (ih _ _ h hr hn :)
 ·refine aq 1 ?_
  exact rf [] [] (hn _ (aj h) :) (hk:=hK)
theorem W9 (s_1:List Duty)(f_2:Duty)(r:Int)(h:H1 s_1 f_2=some r):br LB Tryz.f196 [false,false] 0 (EM (s_1,f_2)) (EN r):=by
 show Run _ _ (Tm (s_1,f_2) r) [.code Tn] _
 refine rI 19 [(0,.isl false (s_1.map ah)),(1,.fn 185 [.iptr (ah f_2) 0])] [] 1 ?_
 unfold H1 at h
 refine cq 8 [6] [.isl false (s_1.map ah)] 33 ?_
 refine oq 49 (I (len s_1)) rfl (bu rfl rfl rfl (bG rfl)) ?_
 refine cq 3 [8] [I (0)] 65 ?_
 obtain⟨y6,hy6,hy61,hy62⟩:=bJ h
 refine bN rfl ?_
 refine rf [0,1,7,8] [] (NY s_1 f_2 rfl 0 _ hy6 (fun r' e st hq=>by rw[hy61 r' e] at hq;exact hq) fun u6 hu=>?_)
 replace h:=hy62 u6 hu
 refine cq 4 [4] [I (-1)] 17 ?_
 obtain rfl:=sI h
 exact rP [I (-1)]
theorem Tp {G:bZ}:bV G 196 BV:=gT 2 0 (aO X9 bz) cd Tryz.func196 (fun a r h=>W9 a.1 a.2 r h)
def Ey:((List Duty)×Duty)→List V:=cA (fG ah) (oA (fun x:Duty=>(.fn 185 [.iptr (ah x) 0]:V)))
def Ez (r:Bool):V×List V:=(B r,[])
noncomputable def BP :=bi [false,false] Ey Ez fun x=>HV x.1 x.2
theorem acB {s_1:List Duty}{f_2:Duty}{r}(h:HV s_1 f_2=some r):BP.F (Ey (s_1,f_2))=some (Ez r):=aH (aJ (bW ey) (aI (iD ey))) h
noncomputable def acD :=aF Tryz.f184
noncomputable def S7 :=cb [(196,BV)]
def acC (x:(List Duty)×Duty)(r:Bool):St→Prop:=QF S7 Tryz.f184 [false,false] (Ey x) (Ez r)
theorem W2 (s_1:List Duty)(f_2:Duty)(r:Bool)(h:HV s_1 f_2=some r):br S7 Tryz.f184 [false,false] 0 (Ey (s_1,f_2)) (Ez r):=by
 show Run _ _ (acC (s_1,f_2) r) [.code acD] _
 refine rI 9 [(0,.isl false (s_1.map ah)),(1,.fn 185 [.iptr (ah f_2) 0])] [] 1 ?_
 unfold HV at h
 refine cq 8 [5,6] [.isl false (s_1.map ah),.fn 185 [.iptr (ah f_2) 0]] 49 ?_
 obtain⟨r3,hr3,h⟩:=bS h
 refine oq 65 (I r3) rfl (b8 rfl rfl (cu rfl rfl rfl (bd (bM rfl) (bd (l4 (dS (fS rfl) gL)) dx)) (acR hr3) (.inr rfl) ec rfl rfl rfl)) ?_
 refine cq 3 [4] [B (decide (r3≥0))] 97 ?_
 obtain rfl:=sI h
 exact rP [B (decide (r3≥0))]
theorem S8 {G:bZ}:bV G 184 BP:=gT 2 0 (aO Tp bz) cd Tryz.func184 (fun a r h=>W2 a.1 a.2 r h)
def KM:(Contract×State×Int)→List V:=cA aM (cA bH (oA I))
def KN (r:Bool):V×List V:=(B r,[])
noncomputable def Iw :=bi [false,false,false] KM KN fun x=>Mr x.1 x.2.1 x.2.2
theorem aez {c_1:Contract}{s_2:State}{i_3:Int}{r}(h:Mr c_1 s_2 i_3=some r):Iw.F (KM (c_1,s_2,i_3))=some (KN r):=aH (aJ aU (aJ bP (aI bo))) h
noncomputable def ko :=aF Tryz.f162
noncomputable def qB :=cb [(99,iJ),(183,Iu),(184,BP),(78,un)]
def ij (x:Contract×State×Int)(r:Bool):St→Prop:=QF qB Tryz.f162 [false,false,false] (KM x) (KN r)
theorem aat (c_1:Contract)(s_2:State)(i_3:Int)(r:Bool)(h:Mr c_1 s_2 i_3=some r):br qB Tryz.f162 [false,false,false] 0 (KM (c_1,s_2,i_3)) (KN r):=by
 show Run _ _ (ij (c_1,s_2,i_3) r) [.code ko] _
 refine rI 114 [(0,aa c_1),(1,ae s_2),(2,I i_3)] [] 1 ?_
 unfold Mr at h
 refine ck 11 [3,4,9,10] [] [1,17] [] [.hp 1 0 [] 2 0 0,.hp 17 0 [] 5 0 0,.isl false (s_2.Duties.map ah),I i_3] [some ⟨0,2,[aa c_1]⟩,some ⟨0,5,[ae s_2]⟩] 97 (by kernel_rfl) ?_
 obtain⟨e4,he4,h⟩:=bS h
 refine oq 113 (.iptr (ah e4) 0) rfl (ak rfl rfl rfl (ba rfl rfl rfl rfl he4)) ?_
 refine ck 11 [7,14,16] [] [129] [] [.hp 129 0 [] 4 0 0,I e4.Clause,.isl false (c_1.Clauses.map ap)] [some ⟨0,4,[ah e4]⟩] 225 (by kernel_rfl) ?_
 refine oq 241 (I (len c_1.Clauses)) rfl (bu rfl rfl rfl (bG rfl)) ?_
 refine cq 1 [18] [I (ai ((len c_1.Clauses) - 1))] 257 ?_
 obtain⟨r5,hr5,h⟩:=bS h
 refine oq 273 (B r5) rfl (cP (iI hr5)) ?_
 refine cq 2 [21] [B (!r5)] 305 ?_
 obtain⟨y6,hy6,hy61,hy62⟩:=bJ h
 have j6:∀u6,y6=.inr u6→Run qB 0 (ij (c_1,s_2,i_3) r) (.code (cR (cL (cR (cR ko))))::.code (cR (cR (cR ko)))::[]) (sT 114 [(2,I i_3),(3,.hp 1 0 [] 2 0 0),(4,.hp 2 0 [] 5 0 0),(7,.hp 3 0 [] 4 0 0),(38,B u6)] [⟨0,2,[aa c_1]⟩,⟨0,5,[ae s_2]⟩,⟨0,4,[ah e4]⟩] 4):=by
  intro u6 hu
  replace h:=hy62 u6 hu
  refine sq h ?_ ?_<;>intro h
  ·refine cq 4 [6] [B false] 20 ?_
   obtain rfl:=sI h
   exact rP [B false]
  ·refine aq 1 ?_
   refine aq 2 ?_
   refine dK [0,1,0,4,0,16,0,64,240,496,1008,2044,4095,8191,16383,32767,65535,131071,262143,524287,1048575,2097151,4194303,8388607,16777215,8388607,41943039,8388607,142606335,511705087,1048575999,2122317823,4294967295,8589934591,17179869183] rfl (by decide +kernel) ?_
   refine dq [3] [] (.hp 3 0 [] 4 0 2) rfl (al rfl rfl rfl) ?_
   refine dq [3] [] (I e4.Due) rfl (aN rfl rfl) ?_
   refine dq [3] [] (.hp 3 0 [] 4 0 1) rfl (al rfl rfl rfl) ?_
   refine dq [3] [] (I e4.Since) rfl (aN rfl rfl) ?_
   refine dq [1] [] (.hp 1 0 [] 2 0 1) rfl (al rfl rfl rfl) ?_
   refine dq [1] [] (.isl false (c_1.Clauses.map ap)) rfl (aN rfl rfl) ?_
   refine dq [3] [] (.hp 3 0 [] 4 0 0) rfl (al rfl rfl rfl) ?_
   refine dq [3] [] (I e4.Clause) rfl (aN rfl rfl) ?_
   obtain⟨e7,he7,h⟩:=bS h
   refine dq [] [] (.iptr (au e7) 0) rfl (ak rfl rfl rfl (ba rfl rfl rfl rfl he7)) ?_
   refine dq [] [] (.iptr (au e7) 10) rfl (al rfl rfl rfl) ?_
   refine dq [] [] (I e7.Within) rfl (aN rfl rfl) ?_
   refine dk 3 [52,51,50] [B (e4.Due != (ai (e4.Since+e7.Within))),B (e4.Due != (ai (e4.Since+e7.Within))),I (ai (e4.Since+e7.Within))] ?_
   obtain⟨y8,hy8,hy81,hy82⟩:=bJ h
   have j8:∀u8,y8=.inr u8→Run qB 0 (ij (c_1,s_2,i_3) r) (.code (cR (cL (cR (cR (cR ko)))))::.code (cR (cR (cR (cR ko))))::[]) (sT 114 [(2,I i_3),(3,.hp 1 0 [] 2 0 0),(4,.hp 2 0 [] 5 0 0),(7,.hp 3 0 [] 4 0 0),(73,B u8)] [⟨0,2,[aa c_1]⟩,⟨0,5,[ae s_2]⟩,⟨0,4,[ah e4]⟩] 4):=by
    intro u8 hu
    replace h:=hy82 u8 hu
    refine sq h ?_ ?_<;>intro h
    ·refine cq 4 [6] [B false] 20 ?_
     obtain rfl:=sI h
     exact rP [B false]
    ·refine aq 1 ?_
     refine cq 6 [74,76] [aa c_1,I e4.Clause] 52 ?_
     obtain⟨r9,hr9,h⟩:=bS h
     refine oq 68 (B r9) rfl (cP (aet hr9)) ?_
     refine cq 2 [79] [B (!r9)] 100 ?_
     obtain⟨y10,hy10,hy101,hy102⟩:=bJ h
     have j10:∀u10,y10=.inr u10→Run qB 0 (ij (c_1,s_2,i_3) r) (.code (cR (cL (cR (cR (cR (cR ko))))))::.code (cR (cR (cR (cR (cR ko)))))::[]) (sT 114 [(4,.hp 1 0 [] 5 0 0),(7,.hp 2 0 [] 4 0 0),(86,B u10)] [⟨0,5,[ae s_2]⟩,⟨0,4,[ah e4]⟩] 3):=by
      intro u10 hu
      replace h:=hy102 u10 hu
      refine sq h ?_ ?_<;>intro h
      ·refine cq 4 [6] [B false] 19 ?_
       obtain rfl:=sI h
       exact rP [B false]
      ·refine aq 1 ?_
       refine cq 12 [88,89] [I e4.Status,B (e4.Status==1)] 67 ?_
       refine sq h ?_ ?_<;>intro h
       ·refine cq 8 [96] [B (decide (e4.Due≥s_2.Day))] 163 ?_
        obtain⟨u11,hu11,h⟩:=lJ h
        have j11:Run qB 0 (ij (c_1,s_2,i_3) r) (.code (cR (cL (cR (cL (cR (cL (cR (cR (cR (cR (cR ko)))))))))))::.blk 0::.code (cR (cR (cR (cR (cR (cR ko))))))::[]) (sT 114 [(6,B u11)] [] 1):=by
         obtain rfl:=sI h
         exact rP [B u11]
        replace h:=hu11
        clear hu11
        refine sp 96 h rfl ?_ ?_<;>intro h
        ·refine cq 6 [6] [B (!s_2.Over)] 243 ?_
         subst h
         exact rf [6] [] (j11 :)
        ·refine cq 6 [6] [B false] 243 ?_
         subst h
         exact rf [6] [] (j11 :)
       ·refine cq 5 [101] [B (e4.Status==2)] 99 ?_
        refine sq h ?_ ?_<;>intro h
        ·refine cq 4 [6] [B true] 115 ?_
         obtain rfl:=sI h
         exact rP [B true]
        ·refine cq 5 [103] [B (e4.Status==3)] 131 ?_
         refine sq h ?_ ?_<;>intro h
         ·refine cq 9 [6] [B (decide (e4.Due<s_2.Day))] 227 ?_
          obtain rfl:=sI h
          exact rP [B (decide (e4.Due<s_2.Day))]
         ·refine cq 5 [110] [B (e4.Status==4)] 163 ?_
          refine sq h ?_ ?_<;>intro h
          ·refine cq 6 [6] [B s_2.Over] 211 ?_
           obtain rfl:=sI h
           exact rP [B s_2.Over]
          ·refine aq 1 ?_
           refine cq 5 [6] [B false] 179 ?_
           obtain rfl:=sI h
           exact rP [B false]
     have r10:∀r',y10=.inl r'→∀st,ij (c_1,s_2,i_3) r' st→(ij (c_1,s_2,i_3) r) st:=fun r' e st hq=>by rw[hy101 r' e] at hq;exact hq
     replace h:=hy10
     refine sp 79 h rfl ?_ ?_<;>intro h
     ·refine cq 3 [81,82] [.isl false (s_2.Duties.map ah),I i_3] 148 ?_
      obtain⟨s12,hs12,h⟩:=bS h
      refine oy 164 (.isl false (s12.map ah)) rfl (il rfl rfl rfl rfl (yo rfl rfl (fun y=>(IG y).1) rfl rfl hs12)) ?_
      refine cq 1 [84] [.fn 185 [.hp 3 0 [] 4 0 0]] 180 ?_
      obtain⟨r13,hr13,h⟩:=bS h
      refine oy 196 (B r13) rfl (b8 rfl rfl (cu rfl rfl rfl (bd (bM rfl) (bd (l4 (dS (l6 (path:=[]) rfl rfl aX rfl rfl) gL)) dx)) (acB hr13) (.inl rfl) ec rfl rfl rfl)) ?_
      refine cq 2 [86] [B r13] 212 ?_
      exact rf [4,7,86] [2,3] (j10 _ (aj h) :)
     ·refine cq 8 [86] [B false] 212 ?_
      exact rf [4,7,86] [2,3] (j10 _ (aj h) :)
   have r8:∀r',y8=.inl r'→∀st,ij (c_1,s_2,i_3) r' st→(ij (c_1,s_2,i_3) r) st:=fun r' e st hq=>by rw[hy81 r' e] at hq;exact hq
   replace h:=hy8
   refine sp 52 h rfl ?_ ?_<;>intro h
   ·refine dk 21 [73,72,71,70,69,68,67,66,65,64,63,62,61,60,59,58,57,56,55,54,53] [B true,.und,.und,.und,.und,.und,.und,.und,.und,.und,.und,.und,.und,.und,.und,B true,B true,.und,.und,.und,.und] ?_
    refine de 564 rfl rfl ?_
    exact rf [2,3,4,7,73] [1,2,3] (j8 _ (aj h) :)
   ·refine dy [3] [] (.hp 3 0 [] 4 0 2) rfl (al rfl rfl rfl) ?_
    refine dy [3] [] (I e4.Due) rfl (aN rfl rfl) ?_
    obtain⟨r14,hr14,h⟩:=bS h
    refine dy [] [] (B r14) rfl (cP (vw hr14)) ?_ (dF rfl rfl rfl rfl (bd (bM rfl) dx) (vw hr14) (.inr rfl) rfl)
    refine dk 3 [58,57,56] [B (!r14),B (!r14),B (!r14)] ?_
    obtain⟨y15,hy15,hy151,hy152⟩:=bL h
    have j15:∀u15,y15=.inr u15→Run qB 0 (ij (c_1,s_2,i_3) r) (.code (cR (cL (cR (cR (cR ko)))))::.code (cR (cR (cR (cR ko))))::[]) (sT 114 [(2,I i_3),(3,.hp 1 0 [] 2 0 0),(4,.hp 2 0 [] 5 0 0),(7,.hp 3 0 [] 4 0 0),(73,B u15)] [⟨0,2,[aa c_1]⟩,⟨0,5,[ae s_2]⟩,⟨0,4,[ah e4]⟩] 4):=by
     intro u15 hu
     replace h:=hy152 u15 hu
     exact rf [2,3,4,7,73] [1,2,3] (j8 _ (aj h) :)
    have r15:∀r',y15=.inl r'→∀st,ij (c_1,s_2,i_3) r' st→(ij (c_1,s_2,i_3) r) st:=fun r' e st hq=>r8 r' (hy151 r' e) st hq
    replace h:=hy15
    refine sp 58 h rfl ?_ ?_<;>intro h
    ·refine dk 15 [73,72,71,70,69,68,67,66,65,64,63,62,61,60,59] [B true,.und,.und,.und,.und,.und,.und,.und,.und,.und,.und,.und,.und,.und,.und] ?_
     refine de 564 rfl rfl ?_
     exact rf [2,3,4,7,73] [1,2,3] (j15 _ (aj h) :)
    ·refine dk 3 [61,60,59] [B (decide (i_3>0)),B (decide (i_3>0)),I i_3] ?_
     obtain⟨y16,hy16,hy161,hy162⟩:=bL h
     have j16:∀u16,y16=.inr u16→Run qB 0 (ij (c_1,s_2,i_3) r) (.code (cR (cL (cR (cR (cR ko)))))::.code (cR (cR (cR (cR ko))))::[]) (sT 114 [(2,I i_3),(3,.hp 1 0 [] 2 0 0),(4,.hp 2 0 [] 5 0 0),(7,.hp 3 0 [] 4 0 0),(73,B u16)] [⟨0,2,[aa c_1]⟩,⟨0,5,[ae s_2]⟩,⟨0,4,[ah e4]⟩] 4):=by
      intro u16 hu
      replace h:=hy162 u16 hu
      exact rf [2,3,4,7,73] [1,2,3] (j15 _ (aj h) :)
     have r16:∀r',y16=.inl r'→∀st,ij (c_1,s_2,i_3) r' st→(ij (c_1,s_2,i_3) r) st:=fun r' e st hq=>r15 r' (hy161 r' e) st hq
     replace h:=hy16
     refine sp 61 h rfl ?_ ?_<;>intro h
     ·refine dy [3] [] (.hp 3 0 [] 4 0 1) rfl (al rfl rfl rfl) ?_
      refine dy [3] [] (I e4.Since) rfl (aN rfl rfl) ?_
      refine dy [2] [] (.hp 2 0 [] 5 0 2) rfl (al rfl rfl rfl) ?_
      refine dy [2] [] (.isl false (s_2.Duties.map ah)) rfl (aN rfl rfl) ?_
      refine dk 2 [67,66] [I (ai (i_3 - 1)),I i_3] ?_
      obtain⟨e17,he17,h⟩:=bS h
      refine dy [] [] (.iptr (ah e17) 0) rfl (ak rfl rfl rfl (ba rfl rfl rfl rfl he17)) ?_
      refine dy [] [] (.iptr (ah e17) 1) rfl (al rfl rfl rfl) ?_
      refine dy [] [] (I e17.Since) rfl (aN rfl rfl) ?_
      refine dk 3 [73,72,71] [B (decide (e4.Since<e17.Since)),B (decide (e4.Since<e17.Since)),B (decide (e4.Since<e17.Since))] ?_
      refine de 564 rfl rfl ?_
      exact rf [2,3,4,7,73] [1,2,3] (j16 _ (aj h) :)
     ·refine dk 12 [73,72,71,70,69,68,67,66,65,64,63,62] [B false,B false,.und,.und,.und,.und,.und,.und,.und,.und,.und,.und] ?_
      refine de 564 rfl rfl ?_
      exact rf [2,3,4,7,73] [1,2,3] (j16 _ (aj h) :)
 have r6:∀r',y6=.inl r'→∀st,ij (c_1,s_2,i_3) r' st→(ij (c_1,s_2,i_3) r) st:=fun r' e st hq=>by rw[hy61 r' e] at hq;exact hq
 replace h:=hy6
 refine sp 21 h rfl ?_ ?_<;>intro h
 ·refine cq 18 [38] [B true] 577 ?_
  exact rf [2,3,4,7,38] [1,17,129] (j6 _ (aj h) :)
 ·refine cq 4 [23,25] [.isl false (c_1.Clauses.map ap),I e4.Clause] 369 ?_
  obtain⟨e18,he18,h⟩:=bS h
  refine oy 385 (.iptr (au e18) 0) rfl (ak rfl rfl rfl (ba rfl rfl rfl rfl he18)) ?_
  refine cq 5 [31] [B (e18.Kind != 1)] 465 ?_
  obtain⟨y19,hy19,hy191,hy192⟩:=bL h
  have j19:∀u19,y19=.inr u19→Run qB 0 (ij (c_1,s_2,i_3) r) (.code (cR (cL (cR (cR ko))))::.code (cR (cR (cR ko)))::[]) (sT 114 [(2,I i_3),(3,.hp 1 0 [] 2 0 0),(4,.hp 2 0 [] 5 0 0),(7,.hp 3 0 [] 4 0 0),(38,B u19)] [⟨0,2,[aa c_1]⟩,⟨0,5,[ae s_2]⟩,⟨0,4,[ah e4]⟩] 4):=by
   intro u19 hu
   replace h:=hy192 u19 hu
   exact rf [2,3,4,7,38] [1,2,3] (j6 _ (aj h) :)
  have r19:∀r',y19=.inl r'→∀st,ij (c_1,s_2,i_3) r' st→(ij (c_1,s_2,i_3) r) st:=fun r' e st hq=>r6 r' (hy191 r' e) st hq
  replace h:=hy19
  refine sp 31 h rfl ?_ ?_<;>intro h
  ·refine cq 8 [38] [B true] 577 ?_
   exact rf [2,3,4,7,38] [1,17,129] (j19 _ (aj h) :)
  ·refine cq 4 [33,35] [I e4.Since,I s_2.Day] 529 ?_
   obtain⟨r20,hr20,h⟩:=bS h
   refine oy 545 (B r20) rfl (cP (iI hr20)) ?_
   refine cq 3 [38] [B (!r20)] 577 ?_
   exact rf [2,3,4,7,38] [1,17,129] (j19 _ (aj h) :)
theorem X8 {G:bZ}:bV G 162 Iw:=gT 3 0 (aO jd (aO X6 (aO S8 (aO CP bz)))) cd Tryz.func162 (fun a r h=>aat a.1 a.2.1 a.2.2 r h)
def KC:Int→List V:=oA I
def KD (r:Bool):V×List V:=(B r,[])
noncomputable def Iq :=bi [false] KC KD fun x=>Pf x
theorem aen {x_1:Int}{r}(h:Pf x_1=some r):Iq.F (KC x_1)=some (KD r):=aH (aI bo) h
noncomputable def aep :=aF Tryz.f164
noncomputable def ZD :=cb [(99,iJ)]
def aeo (x:Int)(r:Bool):St→Prop:=QF ZD Tryz.f164 [false] (KC x) (KD r)
theorem aao (x_1:Int)(r:Bool)(h:Pf x_1=some r):br ZD Tryz.f164 [false] 0 (KC x_1) (KD r):=by
 show Run _ _ (aeo x_1 r) [.code aep] _
 refine rI 5 [(0,I x_1)] [] 1 ?_
 unfold Pf at h
 refine cq 7 [3] [I x_1] 33 ?_
 obtain⟨r2,hr2,h⟩:=bS h
 refine oq 49 (B r2) rfl (cP (iI hr2)) ?_
 refine cq 2 [2] [B r2] 65 ?_
 obtain rfl:=sI h
 exact rP [B r2]
theorem X4 {G:bZ}:bV G 164 Iq:=gT 1 0 (aO jd bz) cd Tryz.func164 (fun a r h=>aao a r h)
def Dm:Int→List V:=oA I
def Dn (r:Bool):V×List V:=(B r,[])
noncomputable def AU :=bi [false] Dm Dn fun x=>AR x
theorem abt {b_1:Int}{r}(h:AR b_1=some r):AU.F (Dm b_1)=some (Dn r):=aH (aI bo) h
noncomputable def abv :=aF Tryz.f163
noncomputable def Rz :=cb [(164,Iq)]
def abu (x:Int)(r:Bool):St→Prop:=QF Rz Tryz.f163 [false] (Dm x) (Dn r)
theorem Wj (b_1:Int)(r:Bool)(h:AR b_1=some r):br Rz Tryz.f163 [false] 0 (Dm b_1) (Dn r):=by
 show Run _ _ (abu b_1 r) [.code abv] _
 refine rI 6 [(0,I b_1)] [] 1 ?_
 unfold AR at h
 refine cq 7 [3] [I b_1] 33 ?_
 obtain⟨r2,hr2,h⟩:=bS h
 refine oq 49 (B r2) rfl (cP (aen hr2)) ?_
 refine cq 3 [2] [B (!r2)] 81 ?_
 obtain rfl:=sI h
 exact rP [B (!r2)]
theorem RA {G:bZ}:bV G 163 AU:=gT 1 0 (aO X4 bz) cd Tryz.func163 (fun a r h=>Wj a r h)
def EQ:((List Int)×Unit)→List V:=cA (fG I) (oA (fun x:Unit=>(.fn 163 []:V)))
def ER (r:Int):V×List V:=(I r,[])
noncomputable def BX :=bi [false,false] EQ ER fun x=>H4 x.1 x.2
theorem acT {s_1:List Int}{f_2:Unit}{r}(h:H4 s_1 f_2=some r):BX.F (EQ (s_1,f_2))=some (ER r):=aH (aJ (bW bo) (aI (Pp ))) h
noncomputable def Tu :=aF Tryz.f153
noncomputable def LD :=cb [(163,AU)]
def Tt (x:(List Int)×Unit)(r:Int):St→Prop:=QF LD Tryz.f153 [false,false] (EQ x) (ER r)
theorem N0 (s_1:List Int)(f_2:Unit):ch LD 0 (Tt (s_1,f_2)) (cL (cL (cR (cL (cR Tu))))) 0 (tJ s_1 f_2) (fun u=>(sT 19 [] [] 1)) fun x3=>(sT 19 [(0,.isl false (s_1.map I)),(1,.fn 163 []),(7,I (len s_1)),(8,I x3)] [] 1):=eg (zx s_1 f_2) fun {Q K} hK self ih x3 y h hr hn=>by
 unfold nF at h
 refine cq 5 [9] [B (decide (x3<(len s_1)))] 17 ?_
 refine sq h ?_ ?_<;>intro h
 ·refine aq 1 ?_
  refine cq 12 [5,11,12,13] [I x3,.fn 163 [],.isl false (s_1.map I),I x3] 97 ?_
  obtain⟨e4,he4,h⟩:=bS h
  refine oq 113 (.iptr (I e4) 0) rfl (ak rfl rfl rfl (ba rfl rfl rfl rfl he4)) ?_
  refine cq 1 [15] [I e4] 129 ?_
  obtain⟨r5,hr5,h⟩:=bS h
  refine oq 145 (B r5) rfl (cP (abt hr5)) ?_
  refine aq 1 ?_
  refine sq h ?_ ?_<;>intro h
  ·refine cq 5 [4] [I x3] 177 ?_
   exact cr rfl (hr _ (aj h) _ (qp [I x3]))
  ·refine aq 1 ?_
   refine cq 5 [8] [I (ai (x3+1))] 177 ?_
   refine cZ ?_
   exact rf [0,1,7,8] [] (ih _ _ h hr hn :)
 ·refine aq 1 ?_
  exact rf [] [] (hn _ (aj h) :) (hk:=hK)
theorem Xc (s_1:List Int)(f_2:Unit)(r:Int)(h:H4 s_1 f_2=some r):br LD Tryz.f153 [false,false] 0 (EQ (s_1,f_2)) (ER r):=by
 show Run _ _ (Tt (s_1,f_2) r) [.code Tu] _
 refine rI 19 [(0,.isl false (s_1.map I)),(1,.fn 163 [])] [] 1 ?_
 unfold H4 at h
 refine cq 8 [6] [.isl false (s_1.map I)] 33 ?_
 refine oq 49 (I (len s_1)) rfl (bu rfl rfl rfl (bG rfl)) ?_
 refine cq 3 [8] [I (0)] 65 ?_
 obtain⟨y6,hy6,hy61,hy62⟩:=bJ h
 refine bN rfl ?_
 refine rf [0,1,7,8] [] (N0 s_1 f_2 rfl 0 _ hy6 (fun r' e st hq=>by rw[hy61 r' e] at hq;exact hq) fun u6 hu=>?_)
 replace h:=hy62 u6 hu
 refine cq 4 [4] [I (-1)] 17 ?_
 obtain rfl:=sI h
 exact rP [I (-1)]
theorem Tv {G:bZ}:bV G 153 BX:=gT 2 0 (aO RA bz) cd Tryz.func153 (fun a r h=>Xc a.1 a.2 r h)
def EC:((List Int)×Unit)→List V:=cA (fG I) (oA (fun x:Unit=>(.fn 163 []:V)))
def ED (r:Bool):V×List V:=(B r,[])
noncomputable def BR :=bi [false,false] EC ED fun x=>HX x.1 x.2
theorem acH {s_1:List Int}{f_2:Unit}{r}(h:HX s_1 f_2=some r):BR.F (EC (s_1,f_2))=some (ED r):=aH (aJ (bW bo) (aI (Pp ))) h
noncomputable def acJ :=aF Tryz.f115
noncomputable def Tb :=cb [(153,BX)]
def acI (x:(List Int)×Unit)(r:Bool):St→Prop:=QF Tb Tryz.f115 [false,false] (EC x) (ED r)
theorem W4 (s_1:List Int)(f_2:Unit)(r:Bool)(h:HX s_1 f_2=some r):br Tb Tryz.f115 [false,false] 0 (EC (s_1,f_2)) (ED r):=by
 show Run _ _ (acI (s_1,f_2) r) [.code acJ] _
 refine rI 9 [(0,.isl false (s_1.map I)),(1,.fn 163 [])] [] 1 ?_
 unfold HX at h
 refine cq 8 [5,6] [.isl false (s_1.map I),.fn 163 []] 49 ?_
 obtain⟨r3,hr3,h⟩:=bS h
 refine oq 65 (I r3) rfl (cP (acT hr3)) ?_
 refine cq 3 [4] [B (decide (r3≥0))] 97 ?_
 obtain rfl:=sI h
 exact rP [B (decide (r3≥0))]
theorem Tc {G:bZ}:bV G 115 BR:=gT 2 0 (aO Tv bz) cd Tryz.func115 (fun a r h=>W4 a.1 a.2 r h)
def KT:(Contract×State)→List V:=cA aM (oA bH)
def KU (r:Bool):V×List V:=(B r,[])
noncomputable def Iz :=bi [false,false] KT KU fun x=>Mt x.1 x.2
theorem aeE {c_1:Contract}{s_2:State}{r}(h:Mt c_1 s_2=some r):Iz.F (KT (c_1,s_2))=some (KU r):=aH (aJ aU (aI bP)) h
noncomputable def pH :=aF Tryz.f127
noncomputable def vx :=cb [(101,yJ),(78,un),(162,Iw),(115,BR),(161,AX),(158,Iy),(159,BS)]
def lg (x:Contract×State)(r:Bool):St→Prop:=QF vx Tryz.f127 [false,false] (KT x) (KU r)
theorem Qx (c_1:Contract)(s_2:State):ch vx 0 (lg (c_1,s_2)) (cL (cL (cR (cL (cR (cR (cR (cR pH)))))))) 0 (qb c_1 s_2) (fun u=>(sT 60 [(3,.hp 1 0 [] 5 0 0)] [⟨0,5,[ae s_2]⟩] 2)) fun x7=>(sT 60 [(2,.hp 1 0 [] 2 0 0),(3,.hp 2 0 [] 5 0 0),(46,I (len s_2.Duties)),(47,I x7)] [⟨0,2,[aa c_1]⟩,⟨0,5,[ae s_2]⟩] 3):=eg (GS c_1 s_2) fun {Q K} hK self ih x7 y h hr hn=>by
 unfold nc at h
 refine cq 5 [48] [B (decide (x7<(len s_2.Duties)))] 19 ?_
 refine sq h ?_ ?_<;>intro h
 ·refine aq 1 ?_
  refine cq 12 [50,51,52] [aa c_1,ae s_2,I x7] 99 ?_
  obtain⟨r8,hr8,h⟩:=bS h
  refine oq 115 (B r8) rfl (cP (aez hr8)) ?_
  refine cq 2 [54] [B (!r8)] 131 ?_
  refine sq h ?_ ?_<;>intro h
  ·refine cq 4 [4] [B false] 147 ?_
   exact cr rfl (hr _ (aj h) _ (qp [B false]))
  ·refine aq 1 ?_
   refine cq 5 [47] [I (ai (x7+1))] 163 ?_
   refine cZ ?_
   exact rf [2,3,46,47] [1,2] (ih _ _ h hr hn :)
 ·refine aq 1 ?_
  exact rf [3] [2] (hn _ (aj h) :) (hk:=hK)
theorem aaw (c_1:Contract)(s_2:State)(r:Bool)(h:Mt c_1 s_2=some r):br vx Tryz.f127 [false,false] 0 (KT (c_1,s_2)) (KU r):=by
 show Run _ _ (lg (c_1,s_2) r) [.code pH] _
 refine rI 60 [(0,aa c_1),(1,ae s_2)] [] 1 ?_
 unfold Mt at h
 refine ck 9 [2,3,7] [] [1,17] [] [.hp 1 0 [] 2 0 0,.hp 17 0 [] 5 0 0,aa c_1] [some ⟨0,2,[aa c_1]⟩,some ⟨0,5,[ae s_2]⟩] 65 (by kernel_rfl) ?_
 obtain⟨r3,hr3,h⟩:=bS h
 refine oq 81 (.hs 65 0 [] 1 0 (r3.map str).length) rfl (cP (ZA hr3)) ?_
 refine ck 1 [5] [] [81] [] [.hp 81 0 [] 1 0 0] [some ⟨0,1,[.isl true []]⟩] 97 (by kernel_rfl) ?_
 refine fP 81 [.usl 1 (([]).map str)] rfl rfl (aP (.nil _) eT) ?_
 refine o0 113 rfl rfl (fW rfl rfl (fh (path:=[]) (pl:=false) (e':=.usl 1 (r3.map str)) (es2':=[.usl 1 (r3.map str)]) rfl (gk rfl (dZ rfl rfl)) rfl rfl rfl aX rfl rfl rfl rfl rfl eG 2 rfl)) ?_
 refine cq 6 [10] [I s_2.Day] 145 ?_
 obtain⟨r4,hr4,h⟩:=bS h
 refine oq 161 (B r4) rfl (cP (vw hr4)) ?_
 refine cq 2 [13] [B (!r4)] 193 ?_
 obtain⟨y5,hy5,hy51,hy52⟩:=bJ h
 have j5:∀u5,y5=.inr u5→Run vx 0 (lg (c_1,s_2) r) (.code (cR (cL (cR (cR pH))))::.code (cR (cR (cR pH)))::[]) (sT 60 [(2,.hp 1 0 [] 2 0 0),(3,.hp 2 0 [] 5 0 0),(24,B u5)] [⟨0,2,[aa c_1]⟩,⟨0,5,[ae s_2]⟩] 3):=by
  intro u5 hu
  replace h:=hy52 u5 hu
  refine sq h ?_ ?_<;>intro h
  ·refine cq 4 [4] [B false] 19 ?_
   obtain rfl:=sI h
   exact rP [B false]
  ·refine aq 1 ?_
   refine cq 5 [26] [.isl false (s_2.Duties.map ah)] 35 ?_
   refine oq 51 (I (len s_2.Duties)) rfl (bu rfl rfl rfl (bG rfl)) ?_
   refine cq 2 [29] [B (decide ((len s_2.Duties)>24))] 83 ?_
   obtain⟨y6,hy6,hy61,hy62⟩:=bJ h
   have j6:∀u6,y6=.inr u6→Run vx 0 (lg (c_1,s_2) r) (.code (cR (cL (cR (cR (cR pH)))))::.code (cR (cR (cR (cR pH))))::[]) (sT 60 [(2,.hp 1 0 [] 2 0 0),(3,.hp 2 0 [] 5 0 0),(43,B u6)] [⟨0,2,[aa c_1]⟩,⟨0,5,[ae s_2]⟩] 3):=by
    intro u6 hu
    replace h:=hy62 u6 hu
    refine sq h ?_ ?_<;>intro h
    ·refine cq 4 [4] [B false] 19 ?_
     obtain rfl:=sI h
     exact rP [B false]
    ·refine aq 1 ?_
     refine cq 5 [45] [.isl false (s_2.Duties.map ah)] 35 ?_
     refine oq 51 (I (len s_2.Duties)) rfl (bu rfl rfl rfl (bG rfl)) ?_
     refine cq 3 [47] [I (0)] 67 ?_
     obtain⟨y9,hy9,hy91,hy92⟩:=bJ h
     refine bN rfl ?_
     refine rf [2,3,46,47] [1,2] (Qx c_1 s_2 rfl 0 _ hy9 (fun r' e st hq=>by rw[hy91 r' e] at hq;exact hq) fun u9 hu=>?_)
     replace h:=hy92 u9 hu
     refine cq 4 [57] [.isl false (s_2.Balances.map I)] 34 ?_
     obtain⟨r10,hr10,h⟩:=bS h
     refine oq 50 (B r10) rfl (cP (acH hr10)) ?_
     refine cq 3 [4] [B (!r10)] 82 ?_
     obtain rfl:=sI h
     exact rP [B (!r10)]
   have r6:∀r',y6=.inl r'→∀st,lg (c_1,s_2) r' st→(lg (c_1,s_2) r) st:=fun r' e st hq=>by rw[hy61 r' e] at hq;exact hq
   replace h:=hy6
   refine sp 29 h rfl ?_ ?_<;>intro h
   ·refine cq 15 [43] [B true] 307 ?_
    exact rf [2,3,43] [1,2] (j6 _ (aj h) :)
   ·refine cq 2 [31] [.isl false (s_2.Balances.map I)] 115 ?_
    refine oy 131 (I (len s_2.Balances)) rfl (bu rfl rfl rfl (bG rfl)) ?_
    refine cq 2 [34] [.isl false (c_1.Parties.map str)] 163 ?_
    refine oy 179 (I (len c_1.Parties)) rfl (bu rfl rfl rfl (bG rfl)) ?_
    refine cq 3 [38] [B ((len s_2.Balances) != (len c_1.Parties))] 227 ?_
    obtain⟨y11,hy11,hy111,hy112⟩:=bL h
    have j11:∀u11,y11=.inr u11→Run vx 0 (lg (c_1,s_2) r) (.code (cR (cL (cR (cR (cR pH)))))::.code (cR (cR (cR (cR pH))))::[]) (sT 60 [(2,.hp 1 0 [] 2 0 0),(3,.hp 2 0 [] 5 0 0),(43,B u11)] [⟨0,2,[aa c_1]⟩,⟨0,5,[ae s_2]⟩] 3):=by
     intro u11 hu
     replace h:=hy112 u11 hu
     exact rf [2,3,43] [1,2] (j6 _ (aj h) :)
    have r11:∀r',y11=.inl r'→∀st,lg (c_1,s_2) r' st→(lg (c_1,s_2) r) st:=fun r' e st hq=>r6 r' (hy111 r' e) st hq
    replace h:=hy11
    refine sp 38 h rfl ?_ ?_<;>intro h
    ·refine cq 6 [43] [B true] 307 ?_
     exact rf [2,3,43] [1,2] (j11 _ (aj h) :)
    ·refine cq 2 [40] [.isl false (s_2.Balances.map I)] 259 ?_
     obtain⟨r12,hr12,h⟩:=bS h
     refine oy 275 (I r12) rfl (cP (abz hr12)) ?_
     refine cq 3 [43] [B (r12 != 0)] 307 ?_
     exact rf [2,3,43] [1,2] (j11 _ (aj h) :)
 have r5:∀r',y5=.inl r'→∀st,lg (c_1,s_2) r' st→(lg (c_1,s_2) r) st:=fun r' e st hq=>by rw[hy51 r' e] at hq;exact hq
 replace h:=hy5
 refine sp 13 h rfl ?_ ?_<;>intro h
 ·refine cq 12 [24] [B true] 369 ?_
  exact rf [2,3,24] [1,17] (j5 _ (aj h) :)
 ·refine cq 2 [15] [.isl false (s_2.Facts.map str)] 225 ?_
  obtain⟨r13,hr13,h⟩:=bS h
  refine oy 241 (B r13) rfl (cP (aeD hr13)) ?_
  refine cq 3 [19] [B (!r13)] 289 ?_
  obtain⟨y14,hy14,hy141,hy142⟩:=bL h
  have j14:∀u14,y14=.inr u14→Run vx 0 (lg (c_1,s_2) r) (.code (cR (cL (cR (cR pH))))::.code (cR (cR (cR pH)))::[]) (sT 60 [(2,.hp 1 0 [] 2 0 0),(3,.hp 2 0 [] 5 0 0),(24,B u14)] [⟨0,2,[aa c_1]⟩,⟨0,5,[ae s_2]⟩] 3):=by
   intro u14 hu
   replace h:=hy142 u14 hu
   exact rf [2,3,24] [1,2] (j5 _ (aj h) :)
  have r14:∀r',y14=.inl r'→∀st,lg (c_1,s_2) r' st→(lg (c_1,s_2) r) st:=fun r' e st hq=>r5 r' (hy141 r' e) st hq
  replace h:=hy14
  refine sp 19 h rfl ?_ ?_<;>intro h
  ·refine cq 6 [24] [B true] 369 ?_
   exact rf [2,3,24] [1,17] (j14 _ (aj h) :)
  ·refine cq 3 [21,22] [.isl false (s_2.Facts.map str),.fn 160 [.hp 81 0 [] 1 0 0]] 337 ?_
   obtain⟨r15,hr15,h⟩:=bS h
   refine oy 353 (B r15) rfl (b8 rfl rfl (cu rfl rfl rfl (bd (bM rfl) (bd (l4 (dS (l6 (path:=[]) rfl rfl aX rfl (ZN (co ga))) gL)) dx)) (acK hr15) (.inl rfl) ec rfl rfl rfl)) ?_
   refine cq 2 [24] [B r15] 369 ?_
   exact rf [2,3,24] [1,17] (j14 _ (aj h) :)
theorem Yb {G:bZ}:bV G 127 Iz:=gT 2 0 (aO Ml (aO CP (aO X8 (aO Tc (aO RF (aO Ya (aO Te bz))))))) cd Tryz.func127 (fun a r h=>aaw a.1 a.2 r h)
def Ki:(Contract×State)→List V:=cA aM (oA bH)
def Kk (r:Bool):V×List V:=(B r,[])
noncomputable def Ih :=bi [false,false] Ki Kk fun x=>Jb x.1 x.2
theorem aed {c_1:Contract}{s_2:State}{r}(h:Jb c_1 s_2=some r):Ih.F (Ki (c_1,s_2))=some (Kk r):=aH (aJ aU (aI bP)) h
noncomputable def Zp :=aF Tryz.f77
noncomputable def Qk :=cb [(47,Ig),(127,Iz)]
def Kj (x:Contract×State)(r:Bool):St→Prop:=QF Qk Tryz.f77 [false,false] (Ki x) (Kk r)
theorem aac (c_1:Contract)(s_2:State)(r:Bool)(h:Jb c_1 s_2=some r):br Qk Tryz.f77 [false,false] 0 (Ki (c_1,s_2)) (Kk r):=by
 show Run _ _ (Kj (c_1,s_2) r) [.code Zp] _
 refine rI 12 [(0,aa c_1),(1,ae s_2)] [] 1 ?_
 unfold Jb at h
 refine ck 9 [2,3,5] [] [1,17] [] [.hp 1 0 [] 2 0 0,.hp 17 0 [] 5 0 0,aa c_1] [some ⟨0,2,[aa c_1]⟩,some ⟨0,5,[ae s_2]⟩] 65 (by kernel_rfl) ?_
 obtain⟨r3,hr3,h⟩:=bS h
 refine oq 81 (B r3) rfl (cP (aec hr3)) ?_
 refine cq 1 [7] [B r3] 97 ?_
 obtain⟨y4,hy4,hy41,hy42⟩:=bJ h
 have j4:∀u4,y4=.inr u4→Run Qk 0 (Kj (c_1,s_2) r) (.code (cR (cR Zp))::[]) (sT 12 [(4,B u4)] [] 1):=by
  intro u4 hu
  replace h:=hy42 u4 hu
  obtain rfl:=sI h
  exact rP [B u4]
 have r4:∀r',y4=.inl r'→∀st,Kj (c_1,s_2) r' st→(Kj (c_1,s_2) r) st:=fun r' e st hq=>by rw[hy41 r' e] at hq;exact hq
 replace h:=hy4
 refine sp 7 h rfl ?_ ?_<;>intro h
 ·refine cq 2 [8,9] [aa c_1,ae s_2] 129 ?_
  obtain⟨r5,hr5,h⟩:=bS h
  refine oy 145 (B r5) rfl (cP (aeE hr5)) ?_
  refine cq 3 [4] [B r5] 177 ?_
  exact rf [4] [] (j4 _ (aj h) :)
 ·refine cq 6 [4] [B false] 177 ?_
  exact rf [4] [] (j4 _ (aj h) :)
theorem XW {G:bZ}:bV G 77 Ih:=gT 2 0 (aO XV (aO Yb bz)) cd Tryz.func77 (fun a r h=>aac a.1 a.2 r h)
def Di:(Int×Contract)→List V:=cA I (oA (fun x:Contract=>.iptr (aM x) 0))
def Dj (r:Bool):V×List V:=(B r,[])
noncomputable def AO :=bi [false,false] Di Dj fun x=>AN x.1 x.2
theorem abm {p_1:Int}{a_2:Contract}{r}(h:AN p_1 a_2=some r):AO.F (Di (p_1,a_2))=some (Dj r):=aH (aJ bo (aI (kz aU))) h
noncomputable def abo :=aF Tryz.f116
noncomputable def Ru :=cb [(99,iJ)]
def abn (x:Int×Contract)(r:Bool):St→Prop:=QF Ru Tryz.f116 [false,false] (Di x) (Dj r)
theorem Wh (p_1:Int)(a_2:Contract)(r:Bool)(h:AN p_1 a_2=some r):br Ru Tryz.f116 [false,false] 0 (Di (p_1,a_2)) (Dj r):=by
 show Run _ _ (abn (p_1,a_2) r) [.code abo] _
 refine rI 11 [(0,I p_1),(1,.iptr (aa a_2) 0)] [] 1 ?_
 unfold AN at h
 refine cq 9 [4,6] [I p_1,.isl false (a_2.Parties.map str)] 65 ?_
 refine oq 81 (I (len a_2.Parties)) rfl (bu rfl rfl rfl (bG rfl)) ?_
 refine cq 1 [8] [I (ai ((len a_2.Parties) - 1))] 97 ?_
 obtain⟨r3,hr3,h⟩:=bS h
 refine oq 113 (B r3) rfl (cP (iI hr3)) ?_
 refine cq 3 [3] [B (!r3)] 145 ?_
 obtain rfl:=sI h
 exact rP [B (!r3)]
theorem Rv {G:bZ}:bV G 116 AO:=gT 2 0 (aO jd bz) cd Tryz.func116 (fun a r h=>Wh a.1 a.2 r h)
def EO:((List Int)×Contract)→List V:=cA (fG I) (oA (fun x:Contract=>(.fn 116 [.iptr (aM x) 0]:V)))
def EP (r:Int):V×List V:=(I r,[])
noncomputable def BW :=bi [false,false] EO EP fun x=>H2 x.1 x.2
theorem acS {s_1:List Int}{f_2:Contract}{r}(h:H2 s_1 f_2=some r):BW.F (EO (s_1,f_2))=some (EP r):=aH (aJ (bW bo) (aI (iD aU))) h
noncomputable def Tr :=aF Tryz.f153
noncomputable def LC :=cb [(116,AO)]
def Tq (x:(List Int)×Contract)(r:Int):St→Prop:=QF LC Tryz.f153 [false,false] (EO x) (EP r)
theorem NZ (s_1:List Int)(f_2:Contract):ch LC 0 (Tq (s_1,f_2)) (cL (cL (cR (cL (cR Tr))))) 0 (tI s_1 f_2) (fun u=>(sT 19 [] [] 1)) fun x3=>(sT 19 [(0,.isl false (s_1.map I)),(1,.fn 116 [.iptr (aa f_2) 0]),(7,I (len s_1)),(8,I x3)] [] 1):=eg (zw s_1 f_2) fun {Q K} hK self ih x3 y h hr hn=>by
 unfold nE at h
 refine cq 5 [9] [B (decide (x3<(len s_1)))] 17 ?_
 refine sq h ?_ ?_<;>intro h
 ·refine aq 1 ?_
  refine cq 12 [5,11,12,13] [I x3,.fn 116 [.iptr (aa f_2) 0],.isl false (s_1.map I),I x3] 97 ?_
  obtain⟨e4,he4,h⟩:=bS h
  refine oq 113 (.iptr (I e4) 0) rfl (ak rfl rfl rfl (ba rfl rfl rfl rfl he4)) ?_
  refine cq 1 [15] [I e4] 129 ?_
  obtain⟨r5,hr5,h⟩:=bS h
  refine oq 145 (B r5) rfl (cP (abm hr5)) ?_
  refine aq 1 ?_
  refine sq h ?_ ?_<;>intro h
  ·refine cq 5 [4] [I x3] 177 ?_
   exact cr rfl (hr _ (aj h) _ (qp [I x3]))
  ·refine aq 1 ?_
   refine cq 5 [8] [I (ai (x3+1))] 177 ?_
   refine cZ ?_
   exact rf [0,1,7,8] [] (ih _ _ h hr hn :)
 ·refine aq 1 ?_
  exact rf [] [] (hn _ (aj h) :) (hk:=hK)
theorem Xa (s_1:List Int)(f_2:Contract)(r:Int)(h:H2 s_1 f_2=some r):br LC Tryz.f153 [false,false] 0 (EO (s_1,f_2)) (EP r):=by
 show Run _ _ (Tq (s_1,f_2) r) [.code Tr] _
 refine rI 19 [(0,.isl false (s_1.map I)),(1,.fn 116 [.iptr (aa f_2) 0])] [] 1 ?_
 unfold H2 at h
 refine cq 8 [6] [.isl false (s_1.map I)] 33 ?_
 refine oq 49 (I (len s_1)) rfl (bu rfl rfl rfl (bG rfl)) ?_
 refine cq 3 [8] [I (0)] 65 ?_
 obtain⟨y6,hy6,hy61,hy62⟩:=bJ h
 refine bN rfl ?_
 refine rf [0,1,7,8] [] (NZ s_1 f_2 rfl 0 _ hy6 (fun r' e st hq=>by rw[hy61 r' e] at hq;exact hq) fun u6 hu=>?_)
 replace h:=hy62 u6 hu
 refine cq 4 [4] [I (-1)] 17 ?_
 obtain rfl:=sI h
 exact rP [I (-1)]
theorem Ts {G:bZ}:bV G 153 BW:=gT 2 0 (aO Rv bz) cd Tryz.func153 (fun a r h=>Xa a.1 a.2 r h)
def EA:((List Int)×Contract)→List V:=cA (fG I) (oA (fun x:Contract=>(.fn 116 [.iptr (aM x) 0]:V)))
def EB (r:Bool):V×List V:=(B r,[])
noncomputable def BQ :=bi [false,false] EA EB fun x=>HW x.1 x.2
theorem acE {s_1:List Int}{f_2:Contract}{r}(h:HW s_1 f_2=some r):BQ.F (EA (s_1,f_2))=some (EB r):=aH (aJ (bW bo) (aI (iD aU))) h
noncomputable def acG :=aF Tryz.f115
noncomputable def S9 :=cb [(153,BW)]
def acF (x:(List Int)×Contract)(r:Bool):St→Prop:=QF S9 Tryz.f115 [false,false] (EA x) (EB r)
theorem W3 (s_1:List Int)(f_2:Contract)(r:Bool)(h:HW s_1 f_2=some r):br S9 Tryz.f115 [false,false] 0 (EA (s_1,f_2)) (EB r):=by
 show Run _ _ (acF (s_1,f_2) r) [.code acG] _
 refine rI 9 [(0,.isl false (s_1.map I)),(1,.fn 116 [.iptr (aa f_2) 0])] [] 1 ?_
 unfold HW at h
 refine cq 8 [5,6] [.isl false (s_1.map I),.fn 116 [.iptr (aa f_2) 0]] 49 ?_
 obtain⟨r3,hr3,h⟩:=bS h
 refine oq 65 (I r3) rfl (b8 rfl rfl (cu rfl rfl rfl (bd (bM rfl) (bd (l4 (dS (fS rfl) gL)) dx)) (acS hr3) (.inr rfl) ec rfl rfl rfl)) ?_
 refine cq 3 [4] [B (decide (r3≥0))] 97 ?_
 obtain rfl:=sI h
 exact rP [B (decide (r3≥0))]
theorem Ta {G:bZ}:bV G 115 BQ:=gT 2 0 (aO Ts bz) cd Tryz.func115 (fun a r h=>W3 a.1 a.2 r h)
def Df:(Contract×State×(List Int))→List V:=cA aM (cA bH (oA (fG I)))
def Dh (r:Bool):V×List V:=(B r,[])
noncomputable def AM :=bi [false,false,false] Df Dh fun x=>AL x.1 x.2.1 x.2.2
theorem abl {c_1:Contract}{s_2:State}{f8:List Int}{r}(h:AL c_1 s_2 f8=some r):AM.F (Df (c_1,s_2,f8))=some (Dh r):=aH (aJ aU (aJ bP (aI (bW bo)))) h
noncomputable def Rs :=aF Tryz.f68
noncomputable def K5 :=cb [(77,Ih),(115,BQ)]
def Dg (x:Contract×State×(List Int))(r:Bool):St→Prop:=QF K5 Tryz.f68 [false,false,false] (Df x) (Dh r)
theorem Wg (c_1:Contract)(s_2:State)(f8:List Int)(r:Bool)(h:AL c_1 s_2 f8=some r):br K5 Tryz.f68 [false,false,false] 0 (Df (c_1,s_2,f8)) (Dh r):=by
 show Run _ _ (Dg (c_1,s_2,f8) r) [.code Rs] _
 refine rI 16 [(0,aa c_1),(1,ae s_2),(2,.isl false (f8.map I))] [] 1 ?_
 unfold AL at h
 refine ck 10 [3,7,8] [] [1] [] [.hp 1 0 [] 2 0 0,aa c_1,ae s_2] [some ⟨0,2,[aa c_1]⟩] 81 (by kernel_rfl) ?_
 obtain⟨r4,hr4,h⟩:=bS h
 refine oq 97 (B r4) rfl (cP (aed hr4)) ?_
 refine cq 1 [10] [B r4] 113 ?_
 obtain⟨y5,hy5,hy51,hy52⟩:=bJ h
 have j5:∀u5,y5=.inr u5→Run K5 0 (Dg (c_1,s_2,f8) r) (.code (cR (cR Rs))::[]) (sT 16 [(6,B u5)] [] 1):=by
  intro u5 hu
  replace h:=hy52 u5 hu
  obtain rfl:=sI h
  exact rP [B u5]
 have r5:∀r',y5=.inl r'→∀st,Dg (c_1,s_2,f8) r' st→(Dg (c_1,s_2,f8) r) st:=fun r' e st hq=>by rw[hy51 r' e] at hq;exact hq
 replace h:=hy5
 refine sp 10 h rfl ?_ ?_<;>intro h
 ·refine cq 2 [11,12] [.isl false (f8.map I),.fn 116 [.hp 1 0 [] 2 0 0]] 145 ?_
  obtain⟨r6,hr6,h⟩:=bS h
  refine oy 161 (B r6) rfl (b8 rfl rfl (cu rfl rfl rfl (bd (bM rfl) (bd (l4 (dS (l6 (path:=[]) rfl rfl aX rfl rfl) gL)) dx)) (acE hr6) (.inl rfl) ec rfl rfl rfl)) ?_
  refine cq 4 [6] [B (!r6)] 209 ?_
  exact rf [6] [] (j5 _ (aj h) :)
 ·refine cq 7 [6] [B false] 209 ?_
  exact rf [6] [] (j5 _ (aj h) :)
theorem Rt {G:bZ}:bV G 68 AM:=gT 3 0 (aO XW (aO Ta bz)) cd Tryz.func68 (fun a r h=>Wg a.1 a.2.1 a.2.2 r h)
def J8:(Duty×Clause×Int×Int)→List V:=cA ah (cA ap (cA (fun x:Int=>.iptr (I x) 0) (oA (fun x:Int=>.iptr (I x) 0))))
def J9 (r:Bool):V×List V:=(B r,[])
noncomputable def H3 :=bi [false,false,false,false] J8 J9 fun x=>O3 x.1 x.2.1 x.2.2.1 x.2.2.2
theorem Zl {d_1:Duty}{x_2:Clause}{a_3:Int}{a_4:Int}{r}(h:O3 d_1 x_2 a_3 a_4=some r):H3.F (J8 (d_1,x_2,a_3,a_4))=some (J9 r):=aH (aJ ey (aJ dI (aJ (kz bo) (aI (kz bo))))) h
noncomputable def Zn :=aF Tryz.f71
noncomputable def P6 :=cb []
def Zm (x:Duty×Clause×Int×Int)(r:Bool):St→Prop:=QF P6 Tryz.f71 [false,false,false,false] (J8 x) (J9 r)
theorem Z0 (d_1:Duty)(x_2:Clause)(a_3:Int)(a_4:Int)(r:Bool)(h:O3 d_1 x_2 a_3 a_4=some r):br P6 Tryz.f71 [false,false,false,false] 0 (J8 (d_1,x_2,a_3,a_4)) (J9 r):=by
 show Run _ _ (Zm (d_1,x_2,a_3,a_4) r) [.code Zn] _
 refine rI 17 [(0,ah d_1),(1,au x_2),(2,.iptr (I a_3) 0),(3,.iptr (I a_4) 0)] [] 1 ?_
 unfold O3 at h
 refine ck 13 [5,11] [] [17] [] [.hp 17 0 [] 12 0 0,B (x_2.Party==a_3)] [some ⟨0,12,[au x_2]⟩] 129 (by kernel_rfl) ?_
 obtain⟨u5,hu5,h⟩:=lJ h
 have j5:Run P6 0 (Zm (d_1,x_2,a_3,a_4) r) (.code (cR (cR Zn))::[]) (sT 17 [(6,B u5)] [] 1):=by
  obtain rfl:=sI h
  exact rP [B u5]
 replace h:=hu5
 clear hu5
 refine sp 11 h rfl ?_ ?_<;>intro h
 ·refine cq 7 [6] [B (x_2.Other==a_4)] 225 ?_
  subst h
  exact rf [6] [] (j5 :)
 ·refine cq 7 [6] [B false] 225 ?_
  subst h
  exact rf [6] [] (j5 :)
theorem Xb {G:bZ}:bV G 71 H3:=gT 4 0 bz cd Tryz.func71 (fun a r h=>Z0 a.1 a.2.1 a.2.2.1 a.2.2.2 r h)
def J4:Int→List V:=oA I
def J5 (r:Bool):V×List V:=(B r,[])
noncomputable def HP :=bi [false] J4 J5 fun x=>K4 x
theorem Zj {x_1:Int}{r}(h:K4 x_1=some r):HP.F (J4 x_1)=some (J5 r):=aH (aI bo) h
noncomputable def ad5 :=aF Tryz.f155
noncomputable def Zi :=cb []
def ad4 (x:Int)(r:Bool):St→Prop:=QF Zi Tryz.f155 [false] (J4 x) (J5 r)
theorem ZV (x_1:Int)(r:Bool)(h:K4 x_1=some r):br Zi Tryz.f155 [false] 0 (J4 x_1) (J5 r):=by
 show Run _ _ (ad4 x_1 r) [.code ad5] _
 refine rI 6 [(0,I x_1)] [] 1 ?_
 unfold K4 at h
 refine cq 11 [2] [B (x_1 != x_1)] 81 ?_
 obtain rfl:=sI h
 exact rP [B (x_1 != x_1)]
theorem Wf {G:bZ}:bV G 155 HP:=gT 1 0 bz cd Tryz.func155 (fun a r h=>ZV a r h)
def J1:(Int×Int)→List V:=cA I (oA I)
def J2 (r:Int):V×List V:=(I r,[])
noncomputable def HO :=bi [false,false] J1 J2 fun x=>K2 x.1 x.2
theorem Zh {x_1:Int}{y_2:Int}{r}(h:K2 x_1 y_2=some r):HO.F (J1 (x_1,y_2))=some (J2 r):=aH (aJ bo (aI bo)) h
noncomputable def ad3 :=aF Tryz.f119
noncomputable def Zg :=cb [(155,HP)]
def ad2 (x:Int×Int)(r:Int):St→Prop:=QF Zg Tryz.f119 [false,false] (J1 x) (J2 r)
theorem ZU (x_1:Int)(y_2:Int)(r:Int)(h:K2 x_1 y_2=some r):br Zg Tryz.f119 [false,false] 0 (J1 (x_1,y_2)) (J2 r):=by
 show Run _ _ (ad2 (x_1,y_2) r) [.code ad3] _
 refine rI 20 [(0,I x_1),(1,I y_2)] [] 1 ?_
 unfold K2 at h
 refine cq 7 [7] [I x_1] 33 ?_
 obtain⟨r3,hr3,h⟩:=bS h
 refine oq 49 (B r3) rfl (cP (Zj hr3)) ?_
 refine cq 5 [5,9] [B r3,I y_2] 81 ?_
 obtain⟨r4,hr4,h⟩:=bS h
 refine oq 97 (B r4) rfl (cP (Zj hr4)) ?_
 refine cq 7 [6,11] [B r4,B r3] 129 ?_
 refine sq h ?_ ?_<;>intro h
 ·refine cq 5 [12] [B r4] 145 ?_
  refine sq h ?_ ?_<;>intro h
  ·refine cq 4 [4] [I (0)] 161 ?_
   obtain rfl:=sI h
   exact rP [I (0)]
  ·refine aq 1 ?_
   refine cq 4 [4] [I (-1)] 161 ?_
   obtain rfl:=sI h
   exact rP [I (-1)]
 ·refine aq 1 ?_
  refine cq 5 [13] [B r4] 145 ?_
  refine sq h ?_ ?_<;>intro h
  ·refine cq 4 [4] [I (1)] 161 ?_
   obtain rfl:=sI h
   exact rP [I (1)]
  ·refine aq 1 ?_
   refine cq 7 [16] [B (decide (x_1<y_2))] 193 ?_
   refine sq h ?_ ?_<;>intro h
   ·refine cq 4 [4] [I (-1)] 209 ?_
    obtain rfl:=sI h
    exact rP [I (-1)]
   ·refine aq 1 ?_
    refine cq 7 [19] [B (decide (x_1>y_2))] 241 ?_
    refine sq h ?_ ?_<;>intro h
    ·refine cq 4 [4] [I (1)] 257 ?_
     obtain rfl:=sI h
     exact rP [I (1)]
    ·refine aq 1 ?_
     refine cq 4 [4] [I (0)] 257 ?_
     obtain rfl:=sI h
     exact rP [I (0)]
theorem We {G:bZ}:bV G 119 HO:=gT 2 0 (aO Wf bz) cd Tryz.func119 (fun a r h=>ZU a.1 a.2 r h)
def Kv:(Int×Int×State)→List V:=cA I (cA I (oA (fun x:State=>.iptr (bH x) 0)))
def Kw (r:Int):V×List V:=(I r,[])
noncomputable def yI :=bi [false,false,false] Kv Kw fun x=>Aj x.1 x.2.1 x.2.2
theorem sj {i_1:Int}{k_2:Int}{a_3:State}{r}(h:Aj i_1 k_2 a_3=some r):yI.F (Kv (i_1,k_2,a_3))=some (Kw r):=aH (aJ bo (aJ bo (aI (kz bP)))) h
noncomputable def aem :=aF Tryz.f118
noncomputable def Zx :=cb [(119,HO)]
def ael (x:Int×Int×State)(r:Int):St→Prop:=QF Zx Tryz.f118 [false,false,false] (Kv x) (Kw r)
theorem aal (i_1:Int)(k_2:Int)(a_3:State)(r:Int)(h:Aj i_1 k_2 a_3=some r):br Zx Tryz.f118 [false,false,false] 0 (Kv (i_1,k_2,a_3)) (Kw r):=by
 show Run _ _ (ael (i_1,k_2,a_3) r) [.code aem] _
 refine rI 19 [(0,I i_1),(1,I k_2),(2,.iptr (ae a_3) 0)] [] 1 ?_
 unfold Aj at h
 refine cq 5 [] [] 17 ?_
 refine dK [0,1,0,7,15,31,0,64,0,448,960,1984,4095,8191] rfl (by decide +kernel) ?_
 refine dq [] [] (.iptr (ae a_3) 2) rfl (al rfl rfl rfl) ?_
 refine dq [] [] (.isl false (a_3.Duties.map ah)) rfl (aN rfl rfl) ?_
 refine dk 1 [8] [I i_1] ?_
 obtain⟨e4,he4,h⟩:=bS h
 refine dq [] [] (.iptr (ah e4) 0) rfl (ak rfl rfl rfl (ba rfl rfl rfl rfl he4)) ?_
 refine dq [] [] (.iptr (ah e4) 2) rfl (al rfl rfl rfl) ?_
 refine dq [] [] (I e4.Due) rfl (aN rfl rfl) ?_
 refine dq [] [] (.iptr (ae a_3) 2) rfl (al rfl rfl rfl) ?_
 refine dq [] [] (.isl false (a_3.Duties.map ah)) rfl (aN rfl rfl) ?_
 refine dk 1 [14] [I k_2] ?_
 obtain⟨e5,he5,h⟩:=bS h
 refine dq [] [] (.iptr (ah e5) 0) rfl (ak rfl rfl rfl (ba rfl rfl rfl rfl he5)) ?_
 refine dq [] [] (.iptr (ah e5) 2) rfl (al rfl rfl rfl) ?_
 refine dq [] [] (I e5.Due) rfl (aN rfl rfl) ?_
 obtain⟨r6,hr6,h⟩:=bS h
 refine dq [] [] (I r6) rfl (cP (Zh hr6)) ?_ (dF rfl rfl rfl rfl (bd (bM rfl) (bd (bM rfl) dx)) (Zh hr6) (.inr rfl) rfl)
 refine dk 1 [5] [I r6] ?_
 refine de 241 rfl rfl ?_
 obtain rfl:=sI h
 exact rP [I r6]
theorem Mj {G:bZ}:bV G 118 yI:=gT 3 0 (aO We bz) cd Tryz.func118 (fun a r h=>aal a.1 a.2.1 a.2.2 r h)
def EZ:((List Int)×Int×Int×State)→List V:=cA (rV 1 I) (cA I (cA I (oA (fun x:State=>(.fn 118 [.iptr (bH x) 0]:V)))))
def E1 (r:(List Int)):V×List V:=(.tup [],[.usl 1 (r.map I)])
noncomputable def B3 :=bi [true,false,false,false] EZ E1 fun x=>rk x.1 x.2.1 x.2.2.1 x.2.2.2
theorem TE {cp:List Int}{eF:Int}{eK:Int}{cO:State}{r}(h:rk cp eF eK cO=some r):B3.F (EZ (cp,eF,eK,cO))=some (E1 r):=aH (aJ (jc bo) (aJ bo (aJ bo (aI (iD bP))))) h
noncomputable def LG :=aF Tryz.f180
noncomputable abbrev yz :=cL (cL (cR (cL (cL (cR (cL (cL (cR LG))))))))
noncomputable def wU :=cb [(118,yI)]
def E0 (x:(List Int)×Int×Int×State)(r:(List Int)):St→Prop:=QF wU Tryz.f180 [true,false,false,false] (EZ x) (E1 r)
theorem N4 (cp:List Int)(eF:Int)(eK:Int)(cO:State)(x5:Int×Int×Int×(List Int)):ch wU 1 (E0 (cp,eF,eK,cO)) yz 2 (kR cp eF eK cO x5) (fun u=>(sT 53 [(0,.hs 1 0 [] 1 0 (u.map I).length),(1,I x5.1),(2,I x5.2.1),(3,.fn 118 [.iptr (ae cO) 0]),(8,I x5.2.2.1)] [⟨0,1,u.map I⟩] 2)) fun x6=>(sT 53 [(0,.hs 1 0 [] 1 0 (x6.2.map I).length),(1,I x5.1),(2,I x5.2.1),(3,.fn 118 [.iptr (ae cO) 0]),(8,I x5.2.2.1),(9,I x6.1)] [⟨0,1,x6.2.map I⟩] 2):=eg (zB cp eF eK cO x5) fun {Q K} hK self ih x6 y h hr hn=>by
 unfold kb at h
 refine aq 2 ?_
 refine dK [0,0,3,7,15,15,15,111,239,15,15,1039,3599,7695,16383,32767,65535] rfl (by decide +kernel) ?_
 refine dk 4 [21,20,19,18] [B (decide (x6.1>x5.1)),B (decide (x6.1>x5.1)),I x5.1,I x6.1] ?_
 obtain⟨y7,hy7,hy71,hy72⟩:=bL h
 have j7:∀u7,y7=.inr u7→Run wU 1 Q (.code (cR (cL yz))::.code (cR yz)::.lp yz::.blk 2::K) (sT 53 [(0,.hs 1 0 [] 1 0 (x6.2.map I).length),(1,I x5.1),(2,I x5.2.1),(3,.fn 118 [.iptr (ae cO) 0]),(8,I x5.2.2.1),(9,I x6.1),(34,B u7)] [⟨0,1,x6.2.map I⟩] 2):=by
  intro u7 hu
  replace h:=hy72 u7 hu
  refine sq h ?_ ?_<;>intro h
  ·refine aq 1 ?_
   refine aq 2 ?_
   refine dK [0,0,0,0,8,0,0,64,224,480,0,0,3072,7168,16355,32739,65535,131071] rfl (by decide +kernel) ?_
   refine dk 8 [44,43,42,41,40,39,38,37] [I (ai (x6.1 - 1)),I x6.1,.hs 1 0 [] 1 0 (x6.2.map I).length,I (ai (x6.1 - 1)),I x6.1,.hs 1 0 [] 1 0 (x6.2.map I).length,I x6.1,.hs 1 0 [] 1 0 (x6.2.map I).length] ?_
   obtain⟨e8,he8,h⟩:=bS h
   refine dq [1] [] (.hp 1 0 [] 1 (0+Int.toNat (ai (x6.1 - 1))) 0) rfl (ak rfl rfl rfl (dU (f:=I) (xs:=x6.2) rfl rfl rfl he8)) ?_
   refine dq [1] [] (I e8) rfl (aN rfl (ge (path:=[]) rfl rfl rfl aX (dh (f:=I) (xs:=x6.2) he8) rfl rfl rfl)) ?_
   refine dk 2 [48,47] [I x6.1,.hs 1 0 [] 1 0 (x6.2.map I).length] ?_
   obtain⟨e9,he9,h⟩:=bS h
   refine dq [1] [] (.hp 1 0 [] 1 (0+Int.toNat x6.1) 0) rfl (ak rfl rfl rfl (dU (f:=I) (xs:=x6.2) rfl rfl rfl he9)) ?_
   refine dq [1] [] (I e9) rfl (aN rfl (ge (path:=[]) rfl rfl rfl aX (dh (f:=I) (xs:=x6.2) he9) rfl rfl rfl)) ?_
   obtain⟨e10,he10,h⟩:=bS h
   refine dq [1] [] (.hp 1 0 [] 1 (0+Int.toNat x6.1) 0) rfl (ak rfl rfl rfl (dU (f:=I) (xs:=x6.2) rfl rfl rfl he10)) ?_
   refine dz [1] [1] rfl (fW rfl rfl (fh (path:=[]) (pl:=true) (e':=I e8) (es2':=(dj x6.2 x6.1 e8).map I) rfl (dT rfl) rfl rfl rfl aX (dh (f:=I) (xs:=x6.2) he10) rfl rfl rfl (iH (f:=I) (xs:=x6.2) (y:=e8)) eG 0 rfl)) ?_
   try rw[←gR (f:=I) (xs:=x6.2) (i:=x6.1) (z:=e8)]
   obtain⟨e13,he13,h⟩:=bS h
   refine dq [1] [] (.hp 1 0 [] 1 (0+Int.toNat (ai (x6.1 - 1))) 0) rfl (ak rfl rfl rfl (dU (f:=I) (xs:=(dj x6.2 x6.1 e8)) rfl rfl rfl he13)) ?_
   obtain⟨rw14,hrw14,h⟩:=lJ h
   refine dz [1] [1] rfl (fW rfl rfl (fh (path:=[]) (pl:=true) (e':=I e9) (es2':=(rw14).map I) rfl (dT rfl) rfl rfl rfl aX (dh (f:=I) (xs:=(dj x6.2 x6.1 e8)) he13) rfl rfl rfl (wa (f:=I) (xs:=(dj x6.2 x6.1 e8)) (y:=e9) hrw14) eG 0 rfl)) ?_
   try rw[←sA hrw14 (f:=I) (xs:=(dj x6.2 x6.1 e8))]
   refine de 290 rfl rfl ?_
   refine cq 6 [9] [I (ai (x6.1 - 1))] 338 ?_
   refine cZ ?_
   exact rf [0,1,2,3,8,9] [1] (ih _ _ h hr hn :)
  ·refine aq 1 ?_
   exact rf [0,1,2,3,8] [1] (hn _ (aj h) :) (hk:=hK)
 have r7:∀r',y7=.inl r'→∀st,E0 (cp,eF,eK,cO) r' st→Q st:=fun r' e st hq=>hr r' (hy71 r' e) st hq
 replace h:=hy7
 refine sp 21 h rfl ?_ ?_<;>intro h
 ·refine dk 3 [24,23,22] [I x6.1,.hs 1 0 [] 1 0 (x6.2.map I).length,.fn 118 [.iptr (ae cO) 0]] ?_
  obtain⟨e18,he18,h⟩:=bS h
  refine dy [1] [] (.hp 1 0 [] 1 (0+Int.toNat x6.1) 0) rfl (ak rfl rfl rfl (dU (f:=I) (xs:=x6.2) rfl rfl rfl he18)) ?_
  refine dy [1] [] (I e18) rfl (aN rfl (ge (path:=[]) rfl rfl rfl aX (dh (f:=I) (xs:=x6.2) he18) rfl rfl rfl)) ?_
  refine dk 3 [29,28,27] [I (ai (x6.1 - 1)),I x6.1,.hs 1 0 [] 1 0 (x6.2.map I).length] ?_
  obtain⟨e19,he19,h⟩:=bS h
  refine dy [1] [] (.hp 1 0 [] 1 (0+Int.toNat (ai (x6.1 - 1))) 0) rfl (ak rfl rfl rfl (dU (f:=I) (xs:=x6.2) rfl rfl rfl he19)) ?_
  refine dy [1] [] (I e19) rfl (aN rfl (ge (path:=[]) rfl rfl rfl aX (dh (f:=I) (xs:=x6.2) he19) rfl rfl rfl)) ?_
  obtain⟨r20,hr20,h⟩:=bS h
  refine dy [] [] (I r20) rfl (cP (sj hr20)) ?_ (dF rfl rfl rfl rfl (bd (bM rfl) (bd (bM rfl) (bd (bM rfl) dx))) (sj hr20) (.inr rfl) rfl)
  refine dk 2 [34,33] [B (decide (r20<0)),B (decide (r20<0))] ?_
  refine de 274 rfl rfl ?_
  exact rf [0,1,2,3,8,9,34] [1] (j7 _ (aj h) :)
 ·refine dk 13 [34,33,32,31,30,29,28,27,26,25,24,23,22] [B false,.und,.und,.und,.und,.und,.und,.und,.und,.und,.und,.und,.und] ?_
  refine de 274 rfl rfl ?_
  exact rf [0,1,2,3,8,9,34] [1] (j7 _ (aj h) :)
theorem N3 (cp:List Int)(eF:Int)(eK:Int)(cO:State):ch wU 1 (E0 (cp,eF,eK,cO)) (cL (cL (cR LG))) 0 (mc cp eF eK cO) (fun u=>(sT 53 [] [⟨0,1,u.map I⟩] 2)) fun x5=>(sT 53 [(0,.hs 1 0 [] 1 0 (x5.2.2.2.map I).length),(1,I x5.1),(2,I x5.2.1),(3,.fn 118 [.iptr (ae cO) 0]),(8,I x5.2.2.1)] [⟨0,1,x5.2.2.2.map I⟩] 2):=eg (zA cp eF eK cO) fun {Q K} hK self ih x5 y h hr hn=>by
 unfold ka at h
 refine cq 7 [14] [B (decide (x5.2.2.1<x5.2.1))] 50 ?_
 refine sq h ?_ ?_<;>intro h
 ·refine aq 1 ?_
  refine cq 8 [9] [I x5.2.2.1] 82 ?_
  obtain⟨y21,hy21,hy211,hy212⟩:=bL h
  refine bN rfl ?_
  refine rf [0,1,2,3,8,9] [1] (N4 cp eF eK cO x5 rfl (x5.2.2.1,x5.2.2.2) _ hy21 (fun r' e st hq=>hr r' (hy211 r' e) st hq) fun u21 hu=>?_)
  replace h:=hy212 u21 hu
  refine cq 6 [8] [I (ai (x5.2.2.1+1))] 50 ?_
  refine cZ ?_
  exact rf [0,1,2,3,8] [1] (ih _ _ h hr hn :)
 ·refine aq 1 ?_
  exact rf [] [1] (hn _ (aj h) :) (hk:=hK)
theorem Xg (cp:List Int)(eF:Int)(eK:Int)(cO:State)(r:(List Int))(h:rk cp eF eK cO=some r):br wU Tryz.f180 [true,false,false,false] 1 (EZ (cp,eF,eK,cO)) (E1 r):=by
 show Run _ _ (E0 (cp,eF,eK,cO) r) [.code LG] _
 refine rI 53 [(0,.hs 1 0 [] 1 0 (cp.map I).length),(1,I eF),(2,I eK),(3,.fn 118 [.iptr (ae cO) 0])] [(1,some ⟨0,1,cp.map I⟩)] 2 ?_
 unfold rk at h
 refine cq 7 [8] [I (ai (eF+1))] 50 ?_
 obtain⟨y22,hy22,hy221,hy222⟩:=bJ h
 refine bN rfl ?_
 refine rf [0,1,2,3,8] [1] (N3 cp eF eK cO rfl (eF,eK,(ai (eF+1)),cp) _ hy22 (fun r' e st hq=>by rw[hy221 r' e] at hq;exact hq) fun u22 hu=>?_)
 replace h:=hy222 u22 hu
 obtain⟨g23,h⟩:=gG h
 obtain rfl:=sI h
 exact yW ⟨_,fin (vs:=[]) rfl eI rfl (lY rfl (qj (f:=I) (xs:=u22) (by simpa using g23) rfl) (dw (dw (dw fD)))),xW fz⟩
theorem TF {G:bZ}:bV G 180 B3:=gT 4 1 (aO Mj bz) cd Tryz.func180 (fun a r h=>Xg a.1 a.2.1 a.2.2.1 a.2.2.2 r h)
def E7:((List Int)×Int×Int×Int×State)→List V:=cA (rV 1 I) (cA I (cA I (cA I (oA (fun x:State=>(.fn 118 [.iptr (bH x) 0]:V))))))
def E8 (r:(List Int)):V×List V:=(.tup [],[.usl 1 (r.map I)])
noncomputable def B7 :=bi [true,false,false,false,false] E7 E8 fun x=>vh x.1 x.2.1 x.2.2.1 x.2.2.2.1 x.2.2.2.2
theorem LL {ek:List Int}{eV:Int}{fI:Int}{gS:Int}{fy:State}{r}(h:vh ek eV fI gS fy=some r):B7.F (E7 (ek,eV,fI,gS,fy))=some (E8 r):=aH (aJ (jc bo) (aJ bo (aJ bo (aJ bo (aI (iD bP)))))) h
noncomputable def TK :=aF Tryz.f216
noncomputable def LK :=cb []
def TJ (x:(List Int)×Int×Int×Int×State)(r:(List Int)):St→Prop:=QF LK Tryz.f216 [true,false,false,false,false] (E7 x) (E8 r)
theorem N9 (ek:List Int)(eV:Int)(fI:Int)(gS:Int)(fy:State):ch LK 1 (TJ (ek,eV,fI,gS,fy)) (cL (cL (cR TK))) 0 (md ek eV fI gS fy) (fun u=>(sT 38 [] [⟨0,1,u.map I⟩] 2)) fun x6=>(sT 38 [(0,.hs 1 0 [] 1 0 (x6.2.map I).length),(1,I eV),(2,I fI),(3,I gS),(10,I x6.1)] [⟨0,1,x6.2.map I⟩] 2):=eg (zG ek eV fI gS fy) fun {Q K} hK self ih x6 y h hr hn=>by
 unfold lz at h
 refine cq 7 [13] [B (decide (x6.1<gS))] 50 ?_
 refine sq h ?_ ?_<;>intro h
 ·refine aq 1 ?_
  refine aq 2 ?_
  refine dK [0,0,0,6,0,0,0,96,0,0,0,1536,3840,7936,0,0,0,98304,245760,507904,1048335,2096911,4194303,8388607] rfl (by decide +kernel) ?_
  refine dk 12 [27,26,25,24,23,22,21,20,19,18,17,16] [I (ai (fI+x6.1)),I x6.1,I fI,.hs 1 0 [] 1 0 (x6.2.map I).length,I (ai (fI+x6.1)),I x6.1,I fI,.hs 1 0 [] 1 0 (x6.2.map I).length,I (ai (eV+x6.1)),I x6.1,I eV,.hs 1 0 [] 1 0 (x6.2.map I).length] ?_
  obtain⟨e7,he7,h⟩:=bS h
  refine dq [1] [] (.hp 1 0 [] 1 (0+Int.toNat (ai (fI+x6.1))) 0) rfl (ak rfl rfl rfl (dU (f:=I) (xs:=x6.2) rfl rfl rfl he7)) ?_
  refine dq [1] [] (I e7) rfl (aN rfl (ge (path:=[]) rfl rfl rfl aX (dh (f:=I) (xs:=x6.2) he7) rfl rfl rfl)) ?_
  refine dk 4 [33,32,31,30] [I (ai (eV+x6.1)),I x6.1,I eV,.hs 1 0 [] 1 0 (x6.2.map I).length] ?_
  obtain⟨e8,he8,h⟩:=bS h
  refine dq [1] [] (.hp 1 0 [] 1 (0+Int.toNat (ai (eV+x6.1))) 0) rfl (ak rfl rfl rfl (dU (f:=I) (xs:=x6.2) rfl rfl rfl he8)) ?_
  refine dq [1] [] (I e8) rfl (aN rfl (ge (path:=[]) rfl rfl rfl aX (dh (f:=I) (xs:=x6.2) he8) rfl rfl rfl)) ?_
  obtain⟨e9,he9,h⟩:=bS h
  refine dq [1] [] (.hp 1 0 [] 1 (0+Int.toNat (ai (eV+x6.1))) 0) rfl (ak rfl rfl rfl (dU (f:=I) (xs:=x6.2) rfl rfl rfl he9)) ?_
  refine dz [1] [1] rfl (fW rfl rfl (fh (path:=[]) (pl:=true) (e':=I e7) (es2':=(dj x6.2 (ai (eV+x6.1)) e7).map I) rfl (dT rfl) rfl rfl rfl aX (dh (f:=I) (xs:=x6.2) he9) rfl rfl rfl (iH (f:=I) (xs:=x6.2) (y:=e7)) eG 0 rfl)) ?_
  try rw[←gR (f:=I) (xs:=x6.2) (i:=(ai (eV+x6.1))) (z:=e7)]
  obtain⟨e12,he12,h⟩:=bS h
  refine dq [1] [] (.hp 1 0 [] 1 (0+Int.toNat (ai (fI+x6.1))) 0) rfl (ak rfl rfl rfl (dU (f:=I) (xs:=(dj x6.2 (ai (eV+x6.1)) e7)) rfl rfl rfl he12)) ?_
  obtain⟨rw13,hrw13,h⟩:=lJ h
  refine dz [1] [1] rfl (fW rfl rfl (fh (path:=[]) (pl:=true) (e':=I e8) (es2':=(rw13).map I) rfl (dT rfl) rfl rfl rfl aX (dh (f:=I) (xs:=(dj x6.2 (ai (eV+x6.1)) e7)) he12) rfl rfl rfl (wa (f:=I) (xs:=(dj x6.2 (ai (eV+x6.1)) e7)) (y:=e8) hrw13) eG 0 rfl)) ?_
  try rw[←sA hrw13 (f:=I) (xs:=(dj x6.2 (ai (eV+x6.1)) e7))]
  refine de 434 rfl rfl ?_
  refine cq 6 [10] [I (ai (x6.1+1))] 482 ?_
  refine cZ ?_
  exact rf [0,1,2,3,10] [1] (ih _ _ h hr hn :)
 ·refine aq 1 ?_
  exact rf [] [1] (hn _ (aj h) :) (hk:=hK)
theorem Xj (ek:List Int)(eV:Int)(fI:Int)(gS:Int)(fy:State)(r:(List Int))(h:vh ek eV fI gS fy=some r):br LK Tryz.f216 [true,false,false,false,false] 1 (E7 (ek,eV,fI,gS,fy)) (E8 r):=by
 show Run _ _ (TJ (ek,eV,fI,gS,fy) r) [.code TK] _
 refine rI 38 [(0,.hs 1 0 [] 1 0 (ek.map I).length),(1,I eV),(2,I fI),(3,I gS),(4,.fn 118 [.iptr (ae fy) 0])] [(1,some ⟨0,1,ek.map I⟩)] 2 ?_
 unfold vh at h
 refine cq 5 [10] [I (0)] 18 ?_
 obtain⟨y17,hy17,hy171,hy172⟩:=bJ h
 refine bN rfl ?_
 refine rf [0,1,2,3,10] [1] (N9 ek eV fI gS fy rfl (0,ek) _ hy17 (fun r' e st hq=>by rw[hy171 r' e] at hq;exact hq) fun u17 hu=>?_)
 replace h:=hy172 u17 hu
 obtain⟨g18,h⟩:=gG h
 obtain rfl:=sI h
 exact yW ⟨_,fin (vs:=[]) rfl eI rfl (lY rfl (qj (f:=I) (xs:=u17) (by simpa using g18) rfl) (dw (dw (dw (dw fD))))),xW fz⟩
theorem TL {G:bZ}:bV G 216 B7:=gT 5 1 bz cd Tryz.func216 (fun a r h=>Xj a.1 a.2.1 a.2.2.1 a.2.2.2.1 a.2.2.2.2 r h)
def E2:((List Int)×Int×Int×Int×State)→List V:=cA (rV 1 I) (cA I (cA I (cA I (oA (fun x:State=>(.fn 118 [.iptr (bH x) 0]:V))))))
def E4 (r:(List Int)):V×List V:=(.tup [],[.usl 1 (r.map I)])
noncomputable def B4 :=bi [true,false,false,false,false] E2 E4 fun x=>wV x.1 x.2.1 x.2.2.1 x.2.2.2.1 x.2.2.2.2
theorem acZ {eJ:List Int}{a_9:Int}{eR:Int}{gD:Int}{eb:State}{r}(h:wV eJ a_9 eR gD eb=some r):B4.F (E2 (eJ,a_9,eR,gD,eb))=some (E4 r):=aH (aJ (jc bo) (aJ bo (aJ bo (aJ bo (aI (iD bP)))))) h
noncomputable def LI :=aF Tryz.f193
noncomputable def E3 :=cb [(216,B7)]
def LH (x:(List Int)×Int×Int×Int×State)(r:(List Int)):St→Prop:=QF E3 Tryz.f193 [true,false,false,false,false] (E2 x) (E4 r)
theorem N5 (eJ:List Int)(a_9:Int)(eR:Int)(gD:Int)(eb:State):ch E3 1 (LH (eJ,a_9,eR,gD,eb)) (cL (cL (cL (cR (cR LI))))) 0 (tL eJ a_9 eR gD eb) (fun u=>(sT 58 [(0,.hs 1 0 [] 1 0 (u.2.2.map I).length),(2,I u.1),(4,.fn 118 [.iptr (ae eb) 0]),(10,I u.2.1)] [⟨0,1,u.2.2.map I⟩] 2)) fun x6=>(sT 58 [(0,.hs 1 0 [] 1 0 (x6.2.2.map I).length),(2,I eR),(4,.fn 118 [.iptr (ae eb) 0]),(10,I x6.1),(11,I x6.2.1)] [⟨0,1,x6.2.2.map I⟩] 2):=eg (zC eJ a_9 eR gD eb) fun {Q K} hK self ih x6 y h hr hn=>by
 unfold nH at h
 refine cq 7 [20] [B (x6.1 != x6.2.1)] 50 ?_
 refine sq h ?_ ?_<;>intro h
 ·refine aq 1 ?_
  refine cq 7 [23] [B (decide (x6.1>x6.2.1))] 98 ?_
  obtain⟨y7,hy7,hy71,hy72⟩:=bL h
  have j7:∀u7,y7=.inr u7→Run E3 1 Q (.blk 1::.lp (cL (cL (cL (cR (cR LI)))))::.blk 0::K) (sT 58 [(0,.hs 1 0 [] 1 0 (u7.2.2.map I).length),(2,I eR),(4,.fn 118 [.iptr (ae eb) 0]),(10,I u7.1),(11,I u7.2.1)] [⟨0,1,u7.2.2.map I⟩] 2):=by
   intro u7 hu
   replace h:=hy72 u7 hu
   refine aq 1 ?_
   refine cZ ?_
   exact rf [0,2,4,10,11] [1] (ih _ _ h hr hn :)
  have r7:∀r',y7=.inl r'→∀st,LH (eJ,a_9,eR,gD,eb) r' st→Q st:=fun r' e st hq=>hr r' (hy71 r' e) st hq
  replace h:=hy7
  refine sq h ?_ ?_<;>intro h
  ·refine cq 9 [24,27,28,29,30] [.hs 1 0 [] 1 0 (x6.2.2.map I).length,I (ai (eR - x6.1)),I eR,I x6.2.1,.fn 118 [.iptr (ae eb) 0]] 210 ?_
   obtain⟨r8,hr8,h⟩:=bS h
   obtain⟨g9,h⟩:=gG h
   refine oq 226 (.tup []) rfl (b8 rfl rfl (cu rfl rfl rfl (li (ki rfl (gb (path:=[]) rfl rfl aX rfl)) (bd (bM rfl) (bd (bM rfl) (bd (bM rfl) (bd (l4 (dS (fS rfl) gL)) dx))))) (LL hr8) (.inr rfl) (ju rfl rfl rfl rfl ec) rfl rfl rfl)) ?_
   try rw[iE (f:=I) (xs:=x6.2.2) (ys:=r8) g9]
   refine cq 7 [10] [I (ai (x6.1 - x6.2.1))] 290 ?_
   exact rf [0,2,4,10,11] [1] (j7 _ (aj h) :)
  ·refine cq 13 [35,38,43,44,45] [.hs 1 0 [] 1 0 (x6.2.2.map I).length,I (ai (eR - x6.1)),I (ai ((ai (eR+x6.2.1)) - x6.1)),I x6.1,.fn 118 [.iptr (ae eb) 0]] 274 ?_
   obtain⟨r10,hr10,h⟩:=bS h
   obtain⟨g11,h⟩:=gG h
   refine oq 290 (.tup []) rfl (b8 rfl rfl (cu rfl rfl rfl (li (ki rfl (gb (path:=[]) rfl rfl aX rfl)) (bd (bM rfl) (bd (bM rfl) (bd (bM rfl) (bd (l4 (dS (fS rfl) gL)) dx))))) (LL hr10) (.inr rfl) (ju rfl rfl rfl rfl ec) rfl rfl rfl)) ?_
   try rw[iE (f:=I) (xs:=x6.2.2) (ys:=r10) g11]
   refine cq 7 [11] [I (ai (x6.2.1 - x6.1))] 354 ?_
   exact rf [0,2,4,10,11] [1] (j7 _ (aj h) :)
 ·refine aq 1 ?_
  exact rf [0,2,4,10] [1] (hn _ (aj h) :) (hk:=hK)
theorem Xh (eJ:List Int)(a_9:Int)(eR:Int)(gD:Int)(eb:State)(r:(List Int))(h:wV eJ a_9 eR gD eb=some r):br E3 Tryz.f193 [true,false,false,false,false] 1 (E2 (eJ,a_9,eR,gD,eb)) (E4 r):=by
 show Run _ _ (LH (eJ,a_9,eR,gD,eb) r) [.code LI] _
 refine rI 58 [(0,.hs 1 0 [] 1 0 (eJ.map I).length),(1,I a_9),(2,I eR),(3,I gD),(4,.fn 118 [.iptr (ae eb) 0])] [(1,some ⟨0,1,eJ.map I⟩)] 2 ?_
 unfold wV at h
 refine cq 16 [10,11] [I (ai (eR - a_9)),I (ai (gD - eR))] 130 ?_
 obtain⟨y12,hy12,hy121,hy122⟩:=bJ h
 refine bN rfl ?_
 refine rf [0,2,4,10,11] [1] (N5 eJ a_9 eR gD eb rfl ((ai (eR - a_9)),(ai (gD - eR)),eJ) _ hy12 (fun r' e st hq=>by rw[hy121 r' e] at hq;exact hq) fun u12 hu=>?_)
 replace h:=hy122 u12 hu
 refine cq 8 [50,53,54,55,56] [.hs 1 0 [] 1 0 (u12.2.2.map I).length,I (ai (u12.1 - u12.2.1)),I u12.1,I u12.2.1,.fn 118 [.iptr (ae eb) 0]] 114 ?_
 obtain⟨r13,hr13,h⟩:=bS h
 obtain⟨g14,h⟩:=gG h
 refine oq 130 (.tup []) rfl (b8 rfl rfl (cu rfl rfl rfl (li (ki rfl (gb (path:=[]) rfl rfl aX rfl)) (bd (bM rfl) (bd (bM rfl) (bd (bM rfl) (bd (l4 (dS (fS rfl) gL)) dx))))) (LL hr13) (.inr rfl) (ju rfl rfl rfl rfl ec) rfl rfl rfl)) ?_
 try rw[iE (f:=I) (xs:=u12.2.2) (ys:=r13) g14]
 refine aq 1 ?_
 obtain⟨g15,h⟩:=gG h
 obtain rfl:=sI h
 exact yW ⟨_,fin (vs:=[]) rfl eI rfl (lY rfl (qj (f:=I) (xs:=r13) (by simpa using g15) rfl) (dw (dw (dw (dw fD))))),xW fz⟩
theorem TG {G:bZ}:bV G 193 B4:=gT 5 1 (aO TL bz) cd Tryz.func193 (fun a r h=>Xh a.1 a.2.1 a.2.2.1 a.2.2.2.1 a.2.2.2.2 r h)
def wX:((List Int)×Int×Int×Int×State)→List V:=cA (rV 1 I) (cA I (cA I (cA I (oA (fun x:State=>(.fn 118 [.iptr (bH x) 0]:V))))))
def wY (r:(List Int)):V×List V:=(.tup [],[.usl 1 (r.map I)])
noncomputable def wZ (az:((List Int)×Int×Int×Int×State)→Option (List Int)):Ent:=bi [true,false,false,false,false] wX wY az
theorem H7 (az:((List Int)×Int×Int×Int×State)→Option (List Int)){x}{r}(h:az x=some r):(wZ az).F (wX x)=some (wY r):=aH (aJ (jc bo) (aJ bo (aJ bo (aJ bo (aI (iD bP)))))) h
noncomputable def B8 :=wZ (aL fB)
theorem TM {an:List Int}{aR:Int}{aV:Int}{aZ:Int}{aD:State}{r}(h:H6 an aR aV aZ aD=some r):B8.F (wX (an,aR,aV,aZ,aD))=some (wY r):=H7 (aL fB) h
noncomputable def ol :=aF Tryz.f181
noncomputable abbrev O4 :=cL (cL (cL (cR (cR (cL (cR (cL ol)))))))
noncomputable abbrev O5 :=cL (cL (cL (cR (cR (cL (cR (cL (cR ol))))))))
noncomputable abbrev Z3 :=cL (cL (cR (cL (cR (cR (cR (cL (cR (cL ol)))))))))
noncomputable abbrev O6 :=cL (cL (cL (cR (cR (cR (cR (cR (cR (cR ol)))))))))
noncomputable abbrev yB :=cR (cR (cR (cR (cR (cR (cR (cR (cR (cR ol)))))))))
noncomputable abbrev Z4 :=cL (cL (cR (cL (cR (cR (cR (cL (cR (cL (cR ol))))))))))
noncomputable abbrev H8 :=cR yB
noncomputable def hI (az:((List Int)×Int×Int×Int×State)→Option (List Int)):Env:=cb [(118,yI),(181,(wZ az)),(193,B4)]
def gj (az:((List Int)×Int×Int×Int×State)→Option (List Int))(x:(List Int)×Int×Int×Int×State)(r:(List Int)):St→Prop:=QF (hI az) Tryz.f181 [true,false,false,false,false] (wX x) (wY r)
theorem Oa (az:((List Int)×Int×Int×Int×State)→Option (List Int))(an:List Int)(aR:Int)(aV:Int)(aZ:Int)(aD:State):ch (hI az) 1 (gj az (an,aR,aV,aZ,aD)) O4 0 (pf az an aR aV aZ aD) (fun u=>(sT 220 [(0,.hs 1 0 [] 1 0 (u.2.2.map I).length),(1,I u.1),(10,I u.2.1)] [⟨0,1,u.2.2.map I⟩] 2)) fun x6=>(sT 220 [(0,.hs 1 0 [] 1 0 (an.map I).length),(1,I aR),(4,.fn 118 [.iptr (ae aD) 0]),(10,I x6.1),(11,I x6.2)] [⟨0,1,an.map I⟩] 2):=eg (zH az an aR aV aZ aD) fun {Q K} hK self ih x6 y h hr hn=>by
 unfold jf at h
 refine cq 7 [33] [B (decide (x6.1<x6.2))] 50 ?_
 refine sq h ?_ ?_<;>intro h
 ·refine aq 1 ?_
  refine cq 12 [12] [I (IntKind.i64.wrap (d6 .u64 (IntKind.u64.wrap (ai (x6.1+x6.2))) 1))] 162 ?_
  refine dK [0,0,0,6,14,0,0,96,224,511,1023] rfl (by decide +kernel) ?_
  refine dk 3 [42,41,40] [I (IntKind.i64.wrap (d6 .u64 (IntKind.u64.wrap (ai (x6.1+x6.2))) 1)),.hs 1 0 [] 1 0 (an.map I).length,.fn 118 [.iptr (ae aD) 0]] ?_
  obtain⟨e7,he7,h⟩:=bS h
  refine dq [1] [] (.hp 1 0 [] 1 (0+Int.toNat (IntKind.i64.wrap (d6 .u64 (IntKind.u64.wrap (ai (x6.1+x6.2))) 1))) 0) rfl (ak rfl rfl rfl (dU (f:=I) (xs:=an) rfl rfl rfl he7)) ?_
  refine dq [1] [] (I e7) rfl (aN rfl (ge (path:=[]) rfl rfl rfl aX (dh (f:=I) (xs:=an) he7) rfl rfl rfl)) ?_
  refine dk 2 [46,45] [I aR,.hs 1 0 [] 1 0 (an.map I).length] ?_
  obtain⟨e8,he8,h⟩:=bS h
  refine dq [1] [] (.hp 1 0 [] 1 (0+Int.toNat aR) 0) rfl (ak rfl rfl rfl (dU (f:=I) (xs:=an) rfl rfl rfl he8)) ?_
  refine dq [1] [] (I e8) rfl (aN rfl (ge (path:=[]) rfl rfl rfl aX (dh (f:=I) (xs:=an) he8) rfl rfl rfl)) ?_
  obtain⟨r9,hr9,h⟩:=bS h
  refine dq [] [] (I r9) rfl (cP (sj hr9)) ?_ (dF rfl rfl rfl rfl (bd (bM rfl) (bd (bM rfl) (bd (bM rfl) dx))) (sj hr9) (.inr rfl) rfl)
  refine dk 1 [50] [B (decide (r9<0))] ?_
  refine de 338 rfl rfl ?_
  obtain⟨u10,hu10,h⟩:=lJ h
  have j10:Run (hI az) 1 Q (.blk 1::.lp O4::.blk 0::K) (sT 220 [(0,.hs 1 0 [] 1 0 (an.map I).length),(1,I aR),(4,.fn 118 [.iptr (ae aD) 0]),(10,I u10.1),(11,I u10.2)] [⟨0,1,an.map I⟩] 2):=by
   refine aq 1 ?_
   refine cZ ?_
   exact rf [0,1,4,10,11] [1] (ih _ _ h hr hn :)
  replace h:=hu10
  clear hu10
  refine sJ h rfl rfl ?_ ?_<;>intro h
  ·refine cq 5 [10] [I (ai ((IntKind.i64.wrap (d6 .u64 (IntKind.u64.wrap (ai (x6.1+x6.2))) 1))+1))] 386 ?_
   subst h
   exact rf [0,1,4,10,11] [1] (j10 :)
  ·refine cq 4 [11] [I (IntKind.i64.wrap (d6 .u64 (IntKind.u64.wrap (ai (x6.1+x6.2))) 1))] 370 ?_
   subst h
   exact rf [0,1,4,10,11] [1] (j10 :)
 ·refine aq 1 ?_
  exact rf [0,1,10] [1] (hn _ (aj h) :) (hk:=hK)
theorem Ob (az:((List Int)×Int×Int×Int×State)→Option (List Int))(an:List Int)(aR:Int)(aV:Int)(aZ:Int)(aD:State)(u11:Int×Int×(List Int)):ch (hI az) 1 (gj az (an,aR,aV,aZ,aD)) Z3 2 (jJ az an aR aV aZ aD u11) (fun u=>(sT 220 [] [⟨0,1,u.map I⟩] 2)) fun x12=>(sT 220 [(0,.hs 1 0 [] 1 0 (x12.2.map I).length),(10,I u11.2.1),(13,I x12.1)] [⟨0,1,x12.2.map I⟩] 2):=eg (zI az an aR aV aZ aD u11) fun {Q K} hK self ih x12 y h hr hn=>by
 unfold jg at h
 refine cq 8 [58] [B (decide (x12.1<(ai (u11.2.1 - 1))))] 66 ?_
 refine sq h ?_ ?_<;>intro h
 ·refine aq 1 ?_
  refine aq 2 ?_
  refine dK [0,0,0,0,8,0,0,64,224,480,0,0,3072,7168,16355,32739,65535,131071] rfl (by decide +kernel) ?_
  refine dk 8 [68,67,66,65,64,63,62,61] [I (ai (x12.1+1)),I x12.1,.hs 1 0 [] 1 0 (x12.2.map I).length,I (ai (x12.1+1)),I x12.1,.hs 1 0 [] 1 0 (x12.2.map I).length,I x12.1,.hs 1 0 [] 1 0 (x12.2.map I).length] ?_
  obtain⟨e13,he13,h⟩:=bS h
  refine dq [1] [] (.hp 1 0 [] 1 (0+Int.toNat (ai (x12.1+1))) 0) rfl (ak rfl rfl rfl (dU (f:=I) (xs:=x12.2) rfl rfl rfl he13)) ?_
  refine dq [1] [] (I e13) rfl (aN rfl (ge (path:=[]) rfl rfl rfl aX (dh (f:=I) (xs:=x12.2) he13) rfl rfl rfl)) ?_
  refine dk 2 [72,71] [I x12.1,.hs 1 0 [] 1 0 (x12.2.map I).length] ?_
  obtain⟨e14,he14,h⟩:=bS h
  refine dq [1] [] (.hp 1 0 [] 1 (0+Int.toNat x12.1) 0) rfl (ak rfl rfl rfl (dU (f:=I) (xs:=x12.2) rfl rfl rfl he14)) ?_
  refine dq [1] [] (I e14) rfl (aN rfl (ge (path:=[]) rfl rfl rfl aX (dh (f:=I) (xs:=x12.2) he14) rfl rfl rfl)) ?_
  obtain⟨e15,he15,h⟩:=bS h
  refine dq [1] [] (.hp 1 0 [] 1 (0+Int.toNat x12.1) 0) rfl (ak rfl rfl rfl (dU (f:=I) (xs:=x12.2) rfl rfl rfl he15)) ?_
  refine dz [1] [1] rfl (fW rfl rfl (fh (path:=[]) (pl:=true) (e':=I e13) (es2':=(dj x12.2 x12.1 e13).map I) rfl (dT rfl) rfl rfl rfl aX (dh (f:=I) (xs:=x12.2) he15) rfl rfl rfl (iH (f:=I) (xs:=x12.2) (y:=e13)) eG 0 rfl)) ?_
  try rw[←gR (f:=I) (xs:=x12.2) (i:=x12.1) (z:=e13)]
  obtain⟨e18,he18,h⟩:=bS h
  refine dq [1] [] (.hp 1 0 [] 1 (0+Int.toNat (ai (x12.1+1))) 0) rfl (ak rfl rfl rfl (dU (f:=I) (xs:=(dj x12.2 x12.1 e13)) rfl rfl rfl he18)) ?_
  obtain⟨rw19,hrw19,h⟩:=lJ h
  refine dz [1] [1] rfl (fW rfl rfl (fh (path:=[]) (pl:=true) (e':=I e14) (es2':=(rw19).map I) rfl (dT rfl) rfl rfl rfl aX (dh (f:=I) (xs:=(dj x12.2 x12.1 e13)) he18) rfl rfl rfl (wa (f:=I) (xs:=(dj x12.2 x12.1 e13)) (y:=e14) hrw19) eG 0 rfl)) ?_
  try rw[←sA hrw19 (f:=I) (xs:=(dj x12.2 x12.1 e13))]
  refine de 354 rfl rfl ?_
  refine cq 6 [13] [I (ai (x12.1+1))] 402 ?_
  refine cZ ?_
  exact rf [0,10,13] [1] (ih _ _ h hr hn :)
 ·refine aq 1 ?_
  exact rf [] [1] (hn _ (aj h) :) (hk:=hK)
theorem Oc (az:((List Int)×Int×Int×Int×State)→Option (List Int))(an:List Int)(aR:Int)(aV:Int)(aZ:Int)(aD:State):ch (hI az) 1 (gj az (an,aR,aV,aZ,aD)) O5 4 (pg az an aR aV aZ aD) (fun u=>(sT 220 [(0,.hs 1 0 [] 1 0 (u.2.2.map I).length),(2,I u.1),(14,I u.2.1)] [⟨0,1,u.2.2.map I⟩] 2)) fun x25=>(sT 220 [(0,.hs 1 0 [] 1 0 (an.map I).length),(2,I aV),(4,.fn 118 [.iptr (ae aD) 0]),(14,I x25.1),(15,I x25.2)] [⟨0,1,an.map I⟩] 2):=eg (zJ az an aR aV aZ aD) fun {Q K} hK self ih x25 y h hr hn=>by
 unfold jh at h
 refine cq 7 [85] [B (decide (x25.1<x25.2))] 50 ?_
 refine sq h ?_ ?_<;>intro h
 ·refine aq 1 ?_
  refine cq 12 [16] [I (IntKind.i64.wrap (d6 .u64 (IntKind.u64.wrap (ai (x25.1+x25.2))) 1))] 162 ?_
  refine dK [0,0,0,6,14,0,0,96,224,511,1023,2047] rfl (by decide +kernel) ?_
  refine dk 3 [94,93,92] [I aV,.hs 1 0 [] 1 0 (an.map I).length,.fn 118 [.iptr (ae aD) 0]] ?_
  obtain⟨e26,he26,h⟩:=bS h
  refine dq [1] [] (.hp 1 0 [] 1 (0+Int.toNat aV) 0) rfl (ak rfl rfl rfl (dU (f:=I) (xs:=an) rfl rfl rfl he26)) ?_
  refine dq [1] [] (I e26) rfl (aN rfl (ge (path:=[]) rfl rfl rfl aX (dh (f:=I) (xs:=an) he26) rfl rfl rfl)) ?_
  refine dk 2 [98,97] [I (IntKind.i64.wrap (d6 .u64 (IntKind.u64.wrap (ai (x25.1+x25.2))) 1)),.hs 1 0 [] 1 0 (an.map I).length] ?_
  obtain⟨e27,he27,h⟩:=bS h
  refine dq [1] [] (.hp 1 0 [] 1 (0+Int.toNat (IntKind.i64.wrap (d6 .u64 (IntKind.u64.wrap (ai (x25.1+x25.2))) 1))) 0) rfl (ak rfl rfl rfl (dU (f:=I) (xs:=an) rfl rfl rfl he27)) ?_
  refine dq [1] [] (I e27) rfl (aN rfl (ge (path:=[]) rfl rfl rfl aX (dh (f:=I) (xs:=an) he27) rfl rfl rfl)) ?_
  obtain⟨r28,hr28,h⟩:=bS h
  refine dq [] [] (I r28) rfl (cP (sj hr28)) ?_ (dF rfl rfl rfl rfl (bd (bM rfl) (bd (bM rfl) (bd (bM rfl) dx))) (sj hr28) (.inr rfl) rfl)
  refine dk 2 [103,102] [B (!(decide (r28<0))),B (decide (r28<0))] ?_
  refine de 354 rfl rfl ?_
  obtain⟨u29,hu29,h⟩:=lJ h
  have j29:Run (hI az) 1 Q (.blk 5::.lp O5::.blk 4::K) (sT 220 [(0,.hs 1 0 [] 1 0 (an.map I).length),(2,I aV),(4,.fn 118 [.iptr (ae aD) 0]),(14,I u29.1),(15,I u29.2)] [⟨0,1,an.map I⟩] 2):=by
   refine aq 1 ?_
   refine cZ ?_
   exact rf [0,2,4,14,15] [1] (ih _ _ h hr hn :)
  replace h:=hu29
  clear hu29
  refine sJ h rfl rfl ?_ ?_<;>intro h
  ·refine cq 5 [14] [I (ai ((IntKind.i64.wrap (d6 .u64 (IntKind.u64.wrap (ai (x25.1+x25.2))) 1))+1))] 402 ?_
   subst h
   exact rf [0,2,4,14,15] [1] (j29 :)
  ·refine cq 4 [15] [I (IntKind.i64.wrap (d6 .u64 (IntKind.u64.wrap (ai (x25.1+x25.2))) 1))] 386 ?_
   subst h
   exact rf [0,2,4,14,15] [1] (j29 :)
 ·refine aq 1 ?_
  exact rf [0,2,14] [1] (hn _ (aj h) :) (hk:=hK)
theorem Od (az:((List Int)×Int×Int×Int×State)→Option (List Int))(an:List Int)(aR:Int)(aV:Int)(aZ:Int)(aD:State)(u30:Int×Int×(List Int)):ch (hI az) 1 (gj az (an,aR,aV,aZ,aD)) Z4 6 (jK az an aR aV aZ aD u30) (fun u=>(sT 220 [] [⟨0,1,u.map I⟩] 2)) fun x31=>(sT 220 [(0,.hs 1 0 [] 1 0 (x31.2.map I).length),(14,I u30.2.1),(17,I x31.1)] [⟨0,1,x31.2.map I⟩] 2):=eg (zK az an aR aV aZ aD u30) fun {Q K} hK self ih x31 y h hr hn=>by
 unfold ji at h
 refine cq 7 [110] [B (decide (x31.1>u30.2.1))] 50 ?_
 refine sq h ?_ ?_<;>intro h
 ·refine aq 1 ?_
  refine aq 2 ?_
  refine dK [0,0,0,0,8,0,0,64,224,480,0,0,3072,7168,16355,32739,65535,131071] rfl (by decide +kernel) ?_
  refine dk 8 [120,119,118,117,116,115,114,113] [I (ai (x31.1 - 1)),I x31.1,.hs 1 0 [] 1 0 (x31.2.map I).length,I (ai (x31.1 - 1)),I x31.1,.hs 1 0 [] 1 0 (x31.2.map I).length,I x31.1,.hs 1 0 [] 1 0 (x31.2.map I).length] ?_
  obtain⟨e32,he32,h⟩:=bS h
  refine dq [1] [] (.hp 1 0 [] 1 (0+Int.toNat (ai (x31.1 - 1))) 0) rfl (ak rfl rfl rfl (dU (f:=I) (xs:=x31.2) rfl rfl rfl he32)) ?_
  refine dq [1] [] (I e32) rfl (aN rfl (ge (path:=[]) rfl rfl rfl aX (dh (f:=I) (xs:=x31.2) he32) rfl rfl rfl)) ?_
  refine dk 2 [124,123] [I x31.1,.hs 1 0 [] 1 0 (x31.2.map I).length] ?_
  obtain⟨e33,he33,h⟩:=bS h
  refine dq [1] [] (.hp 1 0 [] 1 (0+Int.toNat x31.1) 0) rfl (ak rfl rfl rfl (dU (f:=I) (xs:=x31.2) rfl rfl rfl he33)) ?_
  refine dq [1] [] (I e33) rfl (aN rfl (ge (path:=[]) rfl rfl rfl aX (dh (f:=I) (xs:=x31.2) he33) rfl rfl rfl)) ?_
  obtain⟨e34,he34,h⟩:=bS h
  refine dq [1] [] (.hp 1 0 [] 1 (0+Int.toNat x31.1) 0) rfl (ak rfl rfl rfl (dU (f:=I) (xs:=x31.2) rfl rfl rfl he34)) ?_
  refine dz [1] [1] rfl (fW rfl rfl (fh (path:=[]) (pl:=true) (e':=I e32) (es2':=(dj x31.2 x31.1 e32).map I) rfl (dT rfl) rfl rfl rfl aX (dh (f:=I) (xs:=x31.2) he34) rfl rfl rfl (iH (f:=I) (xs:=x31.2) (y:=e32)) eG 0 rfl)) ?_
  try rw[←gR (f:=I) (xs:=x31.2) (i:=x31.1) (z:=e32)]
  obtain⟨e37,he37,h⟩:=bS h
  refine dq [1] [] (.hp 1 0 [] 1 (0+Int.toNat (ai (x31.1 - 1))) 0) rfl (ak rfl rfl rfl (dU (f:=I) (xs:=(dj x31.2 x31.1 e32)) rfl rfl rfl he37)) ?_
  obtain⟨rw38,hrw38,h⟩:=lJ h
  refine dz [1] [1] rfl (fW rfl rfl (fh (path:=[]) (pl:=true) (e':=I e33) (es2':=(rw38).map I) rfl (dT rfl) rfl rfl rfl aX (dh (f:=I) (xs:=(dj x31.2 x31.1 e32)) he37) rfl rfl rfl (wa (f:=I) (xs:=(dj x31.2 x31.1 e32)) (y:=e33) hrw38) eG 0 rfl)) ?_
  try rw[←sA hrw38 (f:=I) (xs:=(dj x31.2 x31.1 e32))]
  refine de 338 rfl rfl ?_
  refine cq 6 [17] [I (ai (x31.1 - 1))] 386 ?_
  refine cZ ?_
  exact rf [0,14,17] [1] (ih _ _ h hr hn :)
 ·refine aq 1 ?_
  exact rf [] [1] (hn _ (aj h) :) (hk:=hK)
theorem Oe (az:((List Int)×Int×Int×Int×State)→Option (List Int))(an:List Int)(aR:Int)(aV:Int)(aZ:Int)(aD:State):ch (hI az) 1 (gj az (an,aR,aV,aZ,aD)) O6 8 (qY az an aR aV aZ aD) (fun u=>(sT 220 [(0,.hs 1 0 [] 1 0 (an.map I).length),(1,I aR),(2,I aV),(3,I u.1),(4,.fn 118 [.iptr (ae aD) 0]),(18,I u.2.1),(19,I u.2.2.1),(20,I u.2.2.2)] [⟨0,1,an.map I⟩] 2)) fun x45=>(sT 220 [(0,.hs 1 0 [] 1 0 (an.map I).length),(1,I aR),(2,I aV),(3,I aZ),(4,.fn 118 [.iptr (ae aD) 0]),(18,I (IntKind.i64.wrap (d6 .u64 (IntKind.u64.wrap (ai (aR+aZ))) 1))),(19,I (ai ((IntKind.i64.wrap (d6 .u64 (IntKind.u64.wrap (ai (aR+aZ))) 1))+aV))),(20,I x45.1),(21,I x45.2),(22,I (ai ((ai ((IntKind.i64.wrap (d6 .u64 (IntKind.u64.wrap (ai (aR+aZ))) 1))+aV)) - 1)))] [⟨0,1,an.map I⟩] 2):=eg (zL az an aR aV aZ aD) fun {Q K} hK self ih x45 y h hr hn=>by
 unfold kd at h
 refine cq 7 [151] [B (decide (x45.1<x45.2))] 50 ?_
 refine sq h ?_ ?_<;>intro h
 ·refine aq 1 ?_
  refine cq 12 [23] [I (IntKind.i64.wrap (d6 .u64 (IntKind.u64.wrap (ai (x45.1+x45.2))) 1))] 162 ?_
  refine dK [0,0,0,0,12,30,62,0,0,384,896,2047,4095,8191] rfl (by decide +kernel) ?_
  refine dk 5 [162,161,160,159,158] [I (ai ((ai ((ai ((IntKind.i64.wrap (d6 .u64 (IntKind.u64.wrap (ai (aR+aZ))) 1))+aV)) - 1)) - (IntKind.i64.wrap (d6 .u64 (IntKind.u64.wrap (ai (x45.1+x45.2))) 1)))),I (IntKind.i64.wrap (d6 .u64 (IntKind.u64.wrap (ai (x45.1+x45.2))) 1)),I (ai ((ai ((IntKind.i64.wrap (d6 .u64 (IntKind.u64.wrap (ai (aR+aZ))) 1))+aV)) - 1)),.hs 1 0 [] 1 0 (an.map I).length,.fn 118 [.iptr (ae aD) 0]] ?_
  obtain⟨e46,he46,h⟩:=bS h
  refine dq [1] [] (.hp 1 0 [] 1 (0+Int.toNat (ai ((ai ((ai ((IntKind.i64.wrap (d6 .u64 (IntKind.u64.wrap (ai (aR+aZ))) 1))+aV)) - 1)) - (IntKind.i64.wrap (d6 .u64 (IntKind.u64.wrap (ai (x45.1+x45.2))) 1))))) 0) rfl (ak rfl rfl rfl (dU (f:=I) (xs:=an) rfl rfl rfl he46)) ?_
  refine dq [1] [] (I e46) rfl (aN rfl (ge (path:=[]) rfl rfl rfl aX (dh (f:=I) (xs:=an) he46) rfl rfl rfl)) ?_
  refine dk 2 [166,165] [I (IntKind.i64.wrap (d6 .u64 (IntKind.u64.wrap (ai (x45.1+x45.2))) 1)),.hs 1 0 [] 1 0 (an.map I).length] ?_
  obtain⟨e47,he47,h⟩:=bS h
  refine dq [1] [] (.hp 1 0 [] 1 (0+Int.toNat (IntKind.i64.wrap (d6 .u64 (IntKind.u64.wrap (ai (x45.1+x45.2))) 1))) 0) rfl (ak rfl rfl rfl (dU (f:=I) (xs:=an) rfl rfl rfl he47)) ?_
  refine dq [1] [] (I e47) rfl (aN rfl (ge (path:=[]) rfl rfl rfl aX (dh (f:=I) (xs:=an) he47) rfl rfl rfl)) ?_
  obtain⟨r48,hr48,h⟩:=bS h
  refine dq [] [] (I r48) rfl (cP (sj hr48)) ?_ (dF rfl rfl rfl rfl (bd (bM rfl) (bd (bM rfl) (bd (bM rfl) dx))) (sj hr48) (.inr rfl) rfl)
  refine dk 2 [171,170] [B (!(decide (r48<0))),B (decide (r48<0))] ?_
  refine de 386 rfl rfl ?_
  obtain⟨u49,hu49,h⟩:=lJ h
  have j49:Run (hI az) 1 Q (.blk 9::.lp O6::.blk 8::K) (sT 220 [(0,.hs 1 0 [] 1 0 (an.map I).length),(1,I aR),(2,I aV),(3,I aZ),(4,.fn 118 [.iptr (ae aD) 0]),(18,I (IntKind.i64.wrap (d6 .u64 (IntKind.u64.wrap (ai (aR+aZ))) 1))),(19,I (ai ((IntKind.i64.wrap (d6 .u64 (IntKind.u64.wrap (ai (aR+aZ))) 1))+aV))),(20,I u49.1),(21,I u49.2),(22,I (ai ((ai ((IntKind.i64.wrap (d6 .u64 (IntKind.u64.wrap (ai (aR+aZ))) 1))+aV)) - 1)))] [⟨0,1,an.map I⟩] 2):=by
   refine aq 1 ?_
   refine cZ ?_
   exact rf [0,1,2,3,4,18,19,20,21,22] [1] (ih _ _ h hr hn :)
  replace h:=hu49
  clear hu49
  refine sJ h rfl rfl ?_ ?_<;>intro h
  ·refine cq 5 [20] [I (ai ((IntKind.i64.wrap (d6 .u64 (IntKind.u64.wrap (ai (x45.1+x45.2))) 1))+1))] 434 ?_
   subst h
   exact rf [0,1,2,3,4,18,19,20,21,22] [1] (j49 :)
  ·refine cq 4 [21] [I (IntKind.i64.wrap (d6 .u64 (IntKind.u64.wrap (ai (x45.1+x45.2))) 1))] 418 ?_
   subst h
   exact rf [0,1,2,3,4,18,19,20,21,22] [1] (j49 :)
 ·refine aq 1 ?_
  exact rf [0,1,2,3,4,18,19,20] [1] (hn _ (aj h) :) (hk:=hK)
theorem Xl (az:((List Int)×Int×Int×Int×State)→Option (List Int))(an:List Int)(aR:Int)(aV:Int)(aZ:Int)(aD:State)(r:(List Int))(h:tR az an aR aV aZ aD=some r):br (hI az) Tryz.f181 [true,false,false,false,false] 1 (wX (an,aR,aV,aZ,aD)) (wY r):=by
 show Run _ _ (gj az (an,aR,aV,aZ,aD) r) [.code ol] _
 refine rI 220 [(0,.hs 1 0 [] 1 0 (an.map I).length),(1,I aR),(2,I aV),(3,I aZ),(4,.fn 118 [.iptr (ae aD) 0])] [(1,some ⟨0,1,an.map I⟩)] 2 ?_
 unfold tR at h
 refine cq 8 [28] [B ((ai (aV - aR))==1)] 66 ?_
 refine sq h ?_ ?_<;>intro h
 ·refine cq 12 [10,11] [I aV,I aZ] 130 ?_
  obtain⟨y11,hy11,hy111,hy112⟩:=bJ h
  refine bN rfl ?_
  refine rf [0,1,4,10,11] [1] (Oa az an aR aV aZ aD rfl (aV,aZ) _ hy11 (fun r' e st hq=>by rw[hy111 r' e] at hq;exact hq) fun u11 hu=>?_)
  replace h:=hy112 u11 hu
  refine cq 7 [13] [I u11.1] 34 ?_
  obtain⟨y23,hy23,hy231,hy232⟩:=bJ h
  refine bN rfl ?_
  refine rf [0,10,13] [1] (Ob az an aR aV aZ aD u11 rfl (u11.1,u11.2.2) _ hy23 (fun r' e st hq=>by rw[hy231 r' e] at hq;exact hq) fun u23 hu=>?_)
  replace h:=hy232 u23 hu
  obtain⟨g24,h⟩:=gG h
  obtain rfl:=sI h
  exact cr rfl ⟨_,fin (vs:=[]) rfl eI rfl (lY rfl (qj (f:=I) (xs:=u23) (by simpa using g24) rfl) (dw (dw (dw (dw fD))))),xW fz⟩
 ·refine aq 1 ?_
  refine cq 8 [80] [B ((ai (aZ - aV))==1)] 130 ?_
  refine sq h ?_ ?_<;>intro h
  ·refine cq 12 [14,15] [I aR,I aV] 194 ?_
   obtain⟨y30,hy30,hy301,hy302⟩:=bJ h
   refine bN rfl ?_
   refine rf [0,2,4,14,15] [1] (Oc az an aR aV aZ aD rfl (aR,aV) _ hy30 (fun r' e st hq=>by rw[hy301 r' e] at hq;exact hq) fun u30 hu=>?_)
   replace h:=hy302 u30 hu
   refine cq 7 [17] [I u30.1] 34 ?_
   obtain⟨y42,hy42,hy421,hy422⟩:=bJ h
   refine bN rfl ?_
   refine rf [0,14,17] [1] (Od az an aR aV aZ aD u30 rfl (u30.1,u30.2.2) _ hy42 (fun r' e st hq=>by rw[hy421 r' e] at hq;exact hq) fun u42 hu=>?_)
   replace h:=hy422 u42 hu
   obtain⟨g43,h⟩:=gG h
   obtain rfl:=sI h
   exact cr rfl ⟨_,fin (vs:=[]) rfl eI rfl (lY rfl (qj (f:=I) (xs:=u42) (by simpa using g43) rfl) (dw (dw (dw (dw fD))))),xW fz⟩
  ·refine aq 1 ?_
   refine cq 29 [18,19,140] [I (IntKind.i64.wrap (d6 .u64 (IntKind.u64.wrap (ai (aR+aZ))) 1)),I (ai ((IntKind.i64.wrap (d6 .u64 (IntKind.u64.wrap (ai (aR+aZ))) 1))+aV)),B (decide (aV>(IntKind.i64.wrap (d6 .u64 (IntKind.u64.wrap (ai (aR+aZ))) 1))))] 386 ?_
   obtain⟨u44,hu44,h⟩:=lJ h
   have j44:Run (hI az) 1 (gj az (an,aR,aV,aZ,aD) r) (.code (cR (cR (cR (cR (cR (cR ol))))))::[]) (sT 220 [(0,.hs 1 0 [] 1 0 (an.map I).length),(1,I aR),(2,I aV),(3,I aZ),(4,.fn 118 [.iptr (ae aD) 0]),(18,I (IntKind.i64.wrap (d6 .u64 (IntKind.u64.wrap (ai (aR+aZ))) 1))),(19,I (ai ((IntKind.i64.wrap (d6 .u64 (IntKind.u64.wrap (ai (aR+aZ))) 1))+aV))),(20,I u44.1),(21,I u44.2)] [⟨0,1,an.map I⟩] 2):=by
    refine cq 8 [22] [I (ai ((ai ((IntKind.i64.wrap (d6 .u64 (IntKind.u64.wrap (ai (aR+aZ))) 1))+aV)) - 1))] 50 ?_
    obtain⟨y50,hy50,hy501,hy502⟩:=bJ h
    refine bN rfl ?_
    refine rf [0,1,2,3,4,18,19,20,21,22] [1] (Oe az an aR aV aZ aD rfl (u44.1,u44.2) _ hy50 (fun r' e st hq=>by rw[hy501 r' e] at hq;exact hq) fun u50 hu=>?_)
    replace h:=hy502 u50 hu
    refine cq 14 [24,181] [I (ai (u50.2.2.1 - u50.2.2.2)),B (decide (u50.2.2.2<aV))] 130 ?_
    obtain⟨u51,hu51,h⟩:=lJ h
    have j51:Run (hI az) 1 (gj az (an,aR,aV,aZ,aD) r) (.code (cR (cL (cR (cR (cR (cR (cR (cR (cR (cR (cR ol)))))))))))::.code yB::[]) (sT 220 [(0,.hs 1 0 [] 1 0 (an.map I).length),(1,I aR),(2,I aV),(3,I u50.1),(4,.fn 118 [.iptr (ae aD) 0]),(18,I u50.2.1),(20,I u50.2.2.2),(24,I (ai (u50.2.2.1 - u50.2.2.2))),(185,B u51)] [⟨0,1,an.map I⟩] 2):=by
     obtain⟨y52,hy52,hy521,hy522⟩:=bJ h
     have j52:∀u52,y52=.inr u52→Run (hI az) 1 (gj az (an,aR,aV,aZ,aD) r) (.code yB::[]) (sT 220 [(0,.hs 1 0 [] 1 0 (u52.map I).length),(1,I aR),(3,I u50.1),(4,.fn 118 [.iptr (ae aD) 0]),(18,I u50.2.1),(20,I u50.2.2.2),(24,I (ai (u50.2.2.1 - u50.2.2.2)))] [⟨0,1,u52.map I⟩] 2):=by
      intro u52 hu
      replace h:=hy522 u52 hu
      refine cq 7 [195] [B (decide (aR<u50.2.2.2))] 66 ?_
      obtain⟨u53,hu53,h⟩:=lJ h
      have j53:Run (hI az) 1 (gj az (an,aR,aV,aZ,aD) r) (.code (cR (cL yB))::.code H8::[]) (sT 220 [(0,.hs 1 0 [] 1 0 (u52.map I).length),(1,I aR),(3,I u50.1),(4,.fn 118 [.iptr (ae aD) 0]),(18,I u50.2.1),(20,I u50.2.2.2),(24,I (ai (u50.2.2.1 - u50.2.2.2))),(199,B u53)] [⟨0,1,u52.map I⟩] 2):=by
       obtain⟨y54,hy54,hy541,hy542⟩:=bJ h
       have j54:∀u54,y54=.inr u54→Run (hI az) 1 (gj az (an,aR,aV,aZ,aD) r) (.code H8::[]) (sT 220 [(0,.hs 1 0 [] 1 0 (u54.map I).length),(3,I u50.1),(4,.fn 118 [.iptr (ae aD) 0]),(18,I u50.2.1),(24,I (ai (u50.2.2.1 - u50.2.2.2)))] [⟨0,1,u54.map I⟩] 2):=by
        intro u54 hu
        replace h:=hy542 u54 hu
        refine cq 6 [209] [B (decide (u50.2.1<(ai (u50.2.2.1 - u50.2.2.2))))] 66 ?_
        obtain⟨u55,hu55,h⟩:=lJ h
        have j55:Run (hI az) 1 (gj az (an,aR,aV,aZ,aD) r) (.code (cR H8)::[]) (sT 220 [(0,.hs 1 0 [] 1 0 (u54.map I).length),(3,I u50.1),(4,.fn 118 [.iptr (ae aD) 0]),(18,I u50.2.1),(24,I (ai (u50.2.2.1 - u50.2.2.2))),(213,B u55)] [⟨0,1,u54.map I⟩] 2):=by
         obtain⟨y56,hy56,hy561,hy562⟩:=bJ h
         have j56:∀u56,y56=.inr u56→Run (hI az) 1 (gj az (an,aR,aV,aZ,aD) r) ([]) (sT 220 [] [⟨0,1,u56.map I⟩] 2):=by
          intro u56 hu
          replace h:=hy562 u56 hu
          obtain⟨g57,h⟩:=gG h
          obtain rfl:=sI h
          exact yW ⟨_,fin (vs:=[]) rfl eI rfl (lY rfl (qj (f:=I) (xs:=u56) (by simpa using g57) rfl) (dw (dw (dw (dw fD))))),xW fz⟩
         have r56:∀r',y56=.inl r'→∀st,gj az (an,aR,aV,aZ,aD) r' st→(gj az (an,aR,aV,aZ,aD) r) st:=fun r' e st hq=>by rw[hy561 r' e] at hq;exact hq
         replace h:=hy56
         refine sq h ?_ ?_<;>intro h
         ·refine cq 6 [214,215,216,217,218] [.hs 1 0 [] 1 0 (u54.map I).length,I u50.2.1,I (ai (u50.2.2.1 - u50.2.2.2)),I u50.1,.fn 118 [.iptr (ae aD) 0]] 82 ?_
          obtain⟨r58,hr58,h⟩:=bS h
          obtain⟨g59,h⟩:=gG h
          refine oq 98 (.tup []) rfl (b8 rfl rfl (cu rfl rfl rfl (li (ki rfl (gb (path:=[]) rfl rfl aX rfl)) (bd (bM rfl) (bd (bM rfl) (bd (bM rfl) (bd (l4 (dS (fS rfl) gL)) dx))))) (H7 az hr58) (.inr rfl) (ju rfl rfl rfl rfl ec) rfl rfl rfl)) ?_
          try rw[iE (f:=I) (xs:=u54) (ys:=r58) g59]
          refine aq 1 ?_
          exact rf [] [1] (j56 _ (aj h) :)
         ·refine aq 1 ?_
          exact rf [] [1] (j56 _ (aj h) :)
        replace h:=hu55
        clear hu55
        refine sp 209 h rfl ?_ ?_<;>intro h
        ·refine cq 5 [213] [B (decide ((ai (u50.2.2.1 - u50.2.2.2))<u50.1))] 130 ?_
         subst h
         exact rf [0,3,4,18,24,213] [1] (j55 :)
        ·refine cq 5 [213] [B false] 130 ?_
         subst h
         exact rf [0,3,4,18,24,213] [1] (j55 :)
       have r54:∀r',y54=.inl r'→∀st,gj az (an,aR,aV,aZ,aD) r' st→(gj az (an,aR,aV,aZ,aD) r) st:=fun r' e st hq=>by rw[hy541 r' e] at hq;exact hq
       replace h:=hy54
       refine sq h ?_ ?_<;>intro h
       ·refine cq 6 [200,201,202,203,204] [.hs 1 0 [] 1 0 (u52.map I).length,I aR,I u50.2.2.2,I u50.2.1,.fn 118 [.iptr (ae aD) 0]] 82 ?_
        obtain⟨r60,hr60,h⟩:=bS h
        obtain⟨g61,h⟩:=gG h
        refine oq 98 (.tup []) rfl (b8 rfl rfl (cu rfl rfl rfl (li (ki rfl (gb (path:=[]) rfl rfl aX rfl)) (bd (bM rfl) (bd (bM rfl) (bd (bM rfl) (bd (l4 (dS (fS rfl) gL)) dx))))) (H7 az hr60) (.inr rfl) (ju rfl rfl rfl rfl ec) rfl rfl rfl)) ?_
        try rw[iE (f:=I) (xs:=u52) (ys:=r60) g61]
        refine aq 1 ?_
        exact rf [0,3,4,18,24] [1] (j54 _ (aj h) :)
       ·refine aq 1 ?_
        exact rf [0,3,4,18,24] [1] (j54 _ (aj h) :)
      replace h:=hu53
      clear hu53
      refine sp 195 h rfl ?_ ?_<;>intro h
      ·refine cq 5 [199] [B (decide (u50.2.2.2<u50.2.1))] 130 ?_
       subst h
       exact rf [0,1,3,4,18,20,24,199] [1] (j53 :)
      ·refine cq 5 [199] [B false] 130 ?_
       subst h
       exact rf [0,1,3,4,18,20,24,199] [1] (j53 :)
     have r52:∀r',y52=.inl r'→∀st,gj az (an,aR,aV,aZ,aD) r' st→(gj az (an,aR,aV,aZ,aD) r) st:=fun r' e st hq=>by rw[hy521 r' e] at hq;exact hq
     replace h:=hy52
     refine sq h ?_ ?_<;>intro h
     ·refine cq 6 [186,187,188,189,190] [.hs 1 0 [] 1 0 (an.map I).length,I u50.2.2.2,I aV,I (ai (u50.2.2.1 - u50.2.2.2)),.fn 118 [.iptr (ae aD) 0]] 82 ?_
      obtain⟨r62,hr62,h⟩:=bS h
      obtain⟨g63,h⟩:=gG h
      refine oq 98 (.tup []) rfl (b8 rfl rfl (cu rfl rfl rfl (li (ki rfl (gb (path:=[]) rfl rfl aX rfl)) (bd (bM rfl) (bd (bM rfl) (bd (bM rfl) (bd (l4 (dS (fS rfl) gL)) dx))))) (acZ hr62) (.inr rfl) (ju rfl rfl rfl rfl ec) rfl rfl rfl)) ?_
      try rw[iE (f:=I) (xs:=an) (ys:=r62) g63]
      refine aq 1 ?_
      exact rf [0,1,3,4,18,20,24] [1] (j52 _ (aj h) :)
     ·refine aq 1 ?_
      exact rf [0,1,3,4,18,20,24] [1] (j52 _ (aj h) :)
    replace h:=hu51
    clear hu51
    refine sp 181 h rfl ?_ ?_<;>intro h
    ·refine cq 5 [185] [B (decide (aV<(ai (u50.2.2.1 - u50.2.2.2))))] 194 ?_
     subst h
     exact rf [0,1,2,3,4,18,20,24,185] [1] (j51 :)
    ·refine cq 5 [185] [B false] 194 ?_
     subst h
     exact rf [0,1,2,3,4,18,20,24,185] [1] (j51 :)
   replace h:=hu44
   clear hu44
   refine sJ h rfl rfl ?_ ?_<;>intro h
   ·refine cq 11 [20,21] [I (ai ((ai ((IntKind.i64.wrap (d6 .u64 (IntKind.u64.wrap (ai (aR+aZ))) 1))+aV)) - aZ)),I (IntKind.i64.wrap (d6 .u64 (IntKind.u64.wrap (ai (aR+aZ))) 1))] 482 ?_
    subst h
    exact rf [0,1,2,3,4,18,19,20,21] [1] (j44 :)
   ·refine cq 9 [20,21] [I aR,I aV] 450 ?_
    subst h
    exact rf [0,1,2,3,4,18,19,20,21] [1] (j44 :)
theorem TN {G:bZ}:bV G 181 B8:=kx fun az g_Ffdi=>gT 5 1 (aO Mj (aO g_Ffdi (aO TG bz))) cd Tryz.func181 (fun a r h=>Xl az a.1 a.2.1 a.2.2.1 a.2.2.2.1 a.2.2.2.2 r h)
def E5:((List Int)×Int×State)→List V:=cA (rV 1 I) (cA I (oA (fun x:State=>(.fn 118 [.iptr (bH x) 0]:V))))
def E6 (r:(List Int)):V×List V:=(.tup [],[.usl 1 (r.map I)])
noncomputable def B6 :=bi [true,false,false] E5 E6 fun x=>B5 x.1 x.2.1 x.2.2
theorem ac0 {bU:List Int}{n_7:Int}{b9:State}{r}(h:B5 bU n_7 b9=some r):B6.F (E5 (bU,n_7,b9))=some (E6 r):=aH (aJ (jc bo) (aJ bo (aI (iD bP)))) h
noncomputable def LJ :=aF Tryz.f154
noncomputable abbrev yA :=cL (cL (cR (cR (cR (cR LJ)))))
noncomputable abbrev Z1 :=cL (cL (cL (cR (cL (cR yA)))))
noncomputable def tM :=cb [(180,B3),(181,B8)]
def wW (x:(List Int)×Int×State)(r:(List Int)):St→Prop:=QF tM Tryz.f154 [true,false,false] (E5 x) (E6 r)
theorem N6 (bU:List Int)(n_7:Int)(b9:State):ch tM 1 (wW (bU,n_7,b9)) (cL (cL (cL (cR (cR LJ))))) 0 (tN bU n_7 b9) (fun u=>(sT 63 [(0,.hs 1 0 [] 1 0 (u.2.2.map I).length),(1,I u.1),(2,.fn 118 [.iptr (ae b9) 0]),(6,I (20)),(7,I u.2.1)] [⟨0,1,u.2.2.map I⟩] 2)) fun x4=>(sT 63 [(0,.hs 1 0 [] 1 0 (x4.2.2.map I).length),(1,I n_7),(2,.fn 118 [.iptr (ae b9) 0]),(6,I (20)),(7,I x4.1),(8,I x4.2.1)] [⟨0,1,x4.2.2.map I⟩] 2):=eg (zD bU n_7 b9) fun {Q K} hK self ih x4 y h hr hn=>by
 unfold kc at h
 refine cq 7 [13] [B (decide (x4.2.1≤n_7))] 50 ?_
 refine sq h ?_ ?_<;>intro h
 ·refine aq 1 ?_
  refine cq 7 [14,15,16,17] [.hs 1 0 [] 1 0 (x4.2.2.map I).length,I x4.1,I x4.2.1,.fn 118 [.iptr (ae b9) 0]] 114 ?_
  obtain⟨r5,hr5,h⟩:=bS h
  obtain⟨g6,h⟩:=gG h
  refine oq 130 (.tup []) rfl (b8 rfl rfl (cu rfl rfl rfl (li (ki rfl (gb (path:=[]) rfl rfl aX rfl)) (bd (bM rfl) (bd (bM rfl) (bd (l4 (dS (fS rfl) gL)) dx)))) (TE hr5) (.inr rfl) (ju rfl rfl rfl rfl ec) rfl rfl rfl)) ?_
  try rw[iE (f:=I) (xs:=x4.2.2) (ys:=r5) g6]
  refine cq 13 [7,8] [I x4.2.1,I (ai (x4.2.1+20))] 226 ?_
  refine cZ ?_
  exact rf [0,1,2,6,7,8] [1] (ih _ _ h hr hn :)
 ·refine aq 1 ?_
  exact rf [0,1,2,6,7] [1] (hn _ (aj h) :) (hk:=hK)
theorem N8 (bU:List Int)(n_7:Int)(b9:State)(u7:Int×Int×(List Int))(x10:Int×(List Int)):ch tM 1 (wW (bU,n_7,b9)) Z1 4 (tQ bU n_7 b9 u7 x10) (fun u=>(sT 63 [(0,.hs 1 0 [] 1 0 (u.2.map I).length),(1,I u7.1),(2,.fn 118 [.iptr (ae b9) 0]),(6,I x10.1),(7,I u.1)] [⟨0,1,u.2.map I⟩] 2)) fun x11=>(sT 63 [(0,.hs 1 0 [] 1 0 (x11.2.2.map I).length),(1,I u7.1),(2,.fn 118 [.iptr (ae b9) 0]),(6,I x10.1),(7,I x11.1),(8,I x11.2.1)] [⟨0,1,x11.2.2.map I⟩] 2):=eg (zF bU n_7 b9 u7 x10) fun {Q K} hK self ih x11 y h hr hn=>by
 unfold nI at h
 refine cq 7 [35] [B (decide (x11.2.1≤u7.1))] 50 ?_
 refine sq h ?_ ?_<;>intro h
 ·refine aq 1 ?_
  refine cq 10 [36,37,40,41,42] [.hs 1 0 [] 1 0 (x11.2.2.map I).length,I x11.1,I (ai (x11.1+x10.1)),I x11.2.1,.fn 118 [.iptr (ae b9) 0]] 162 ?_
  obtain⟨r12,hr12,h⟩:=bS h
  obtain⟨g13,h⟩:=gG h
  refine oq 178 (.tup []) rfl (b8 rfl rfl (cu rfl rfl rfl (li (ki rfl (gb (path:=[]) rfl rfl aX rfl)) (bd (bM rfl) (bd (bM rfl) (bd (bM rfl) (bd (l4 (dS (fS rfl) gL)) dx))))) (TM hr12) (.inr rfl) (ju rfl rfl rfl rfl ec) rfl rfl rfl)) ?_
  try rw[iE (f:=I) (xs:=x11.2.2) (ys:=r12) g13]
  refine cq 14 [7,8] [I x11.2.1,I (ai (x11.2.1+(ai (2*x10.1))))] 290 ?_
  refine cZ ?_
  exact rf [0,1,2,6,7,8] [1] (ih _ _ h hr hn :)
 ·refine aq 1 ?_
  exact rf [0,1,2,6,7] [1] (hn _ (aj h) :) (hk:=hK)
theorem N7 (bU:List Int)(n_7:Int)(b9:State)(u7:Int×Int×(List Int)):ch tM 1 (wW (bU,n_7,b9)) yA 2 (tP bU n_7 b9 u7) (fun u=>(sT 63 [] [⟨0,1,u.map I⟩] 2)) fun x10=>(sT 63 [(0,.hs 1 0 [] 1 0 (x10.2.map I).length),(1,I u7.1),(2,.fn 118 [.iptr (ae b9) 0]),(6,I x10.1)] [⟨0,1,x10.2.map I⟩] 2):=eg (zE bU n_7 b9 u7) fun {Q K} hK self ih x10 y h hr hn=>by
 unfold je at h
 refine cq 7 [30] [B (decide (x10.1<u7.1))] 50 ?_
 refine sq h ?_ ?_<;>intro h
 ·refine aq 1 ?_
  refine cq 10 [7,8] [I (0),I (ai (2*x10.1))] 114 ?_
  obtain⟨y14,hy14,hy141,hy142⟩:=bL h
  refine bN rfl ?_
  refine rf [0,1,2,6,7,8] [1] (N8 bU n_7 b9 u7 x10 rfl (0,(ai (2*x10.1)),x10.2) _ hy14 (fun r' e st hq=>hr r' (hy141 r' e) st hq) fun u14 hu=>?_)
  replace h:=hy142 u14 hu
  refine cq 14 [9,54] [I (ai (u14.1+x10.1)),B (decide ((ai (u14.1+x10.1))<u7.1))] 114 ?_
  obtain⟨y15,hy15,hy151,hy152⟩:=bL h
  have j15:∀u15,y15=.inr u15→Run tM 1 Q (.code (cR (cR (cR (cL (cR yA)))))::.blk 3::.lp yA::.blk 2::K) (sT 63 [(0,.hs 1 0 [] 1 0 (u15.map I).length),(1,I u7.1),(2,.fn 118 [.iptr (ae b9) 0]),(6,I x10.1)] [⟨0,1,u15.map I⟩] 2):=by
   intro u15 hu
   replace h:=hy152 u15 hu
   refine cq 6 [6] [I (ai (x10.1*2))] 50 ?_
   refine cZ ?_
   exact rf [0,1,2,6] [1] (ih _ _ h hr hn :)
  have r15:∀r',y15=.inl r'→∀st,wW (bU,n_7,b9) r' st→Q st:=fun r' e st hq=>hr r' (hy151 r' e) st hq
  replace h:=hy15
  refine sq h ?_ ?_<;>intro h
  ·refine cq 6 [55,56,57,58,59] [.hs 1 0 [] 1 0 (u14.2.map I).length,I u14.1,I (ai (u14.1+x10.1)),I u7.1,.fn 118 [.iptr (ae b9) 0]] 194 ?_
   obtain⟨r16,hr16,h⟩:=bS h
   obtain⟨g17,h⟩:=gG h
   refine oq 210 (.tup []) rfl (b8 rfl rfl (cu rfl rfl rfl (li (ki rfl (gb (path:=[]) rfl rfl aX rfl)) (bd (bM rfl) (bd (bM rfl) (bd (bM rfl) (bd (l4 (dS (fS rfl) gL)) dx))))) (TM hr16) (.inr rfl) (ju rfl rfl rfl rfl ec) rfl rfl rfl)) ?_
   try rw[iE (f:=I) (xs:=u14.2) (ys:=r16) g17]
   refine aq 1 ?_
   exact rf [0,1,2,6] [1] (j15 _ (aj h) :)
  ·refine aq 1 ?_
   exact rf [0,1,2,6] [1] (j15 _ (aj h) :)
 ·refine aq 1 ?_
  exact rf [] [1] (hn _ (aj h) :) (hk:=hK)
theorem Xi (bU:List Int)(n_7:Int)(b9:State)(r:(List Int))(h:B5 bU n_7 b9=some r):br tM Tryz.f154 [true,false,false] 1 (E5 (bU,n_7,b9)) (E6 r):=by
 show Run _ _ (wW (bU,n_7,b9) r) [.code LJ] _
 refine rI 63 [(0,.hs 1 0 [] 1 0 (bU.map I).length),(1,I n_7),(2,.fn 118 [.iptr (ae b9) 0])] [(1,some ⟨0,1,bU.map I⟩)] 2 ?_
 unfold B5 at h
 refine cq 12 [6,7,8] [I (20),I (0),I (20)] 66 ?_
 obtain⟨y7,hy7,hy71,hy72⟩:=bJ h
 refine bN rfl ?_
 refine rf [0,1,2,6,7,8] [1] (N6 bU n_7 b9 rfl (0,20,bU) _ hy7 (fun r' e st hq=>by rw[hy71 r' e] at hq;exact hq) fun u7 hu=>?_)
 replace h:=hy72 u7 hu
 refine cq 6 [23,24,25,26] [.hs 1 0 [] 1 0 (u7.2.2.map I).length,I u7.2.1,I u7.1,.fn 118 [.iptr (ae b9) 0]] 66 ?_
 obtain⟨r8,hr8,h⟩:=bS h
 obtain⟨g9,h⟩:=gG h
 refine oq 82 (.tup []) rfl (b8 rfl rfl (cu rfl rfl rfl (li (ki rfl (gb (path:=[]) rfl rfl aX rfl)) (bd (bM rfl) (bd (bM rfl) (bd (l4 (dS (fS rfl) gL)) dx)))) (TE hr8) (.inr rfl) (ju rfl rfl rfl rfl ec) rfl rfl rfl)) ?_
 try rw[iE (f:=I) (xs:=u7.2.2) (ys:=r8) g9]
 refine aq 2 ?_
 obtain⟨y18,hy18,hy181,hy182⟩:=bJ h
 refine bN rfl ?_
 refine rf [0,1,2,6] [1] (N7 bU n_7 b9 u7 rfl (20,r8) _ hy18 (fun r' e st hq=>by rw[hy181 r' e] at hq;exact hq) fun u18 hu=>?_)
 replace h:=hy182 u18 hu
 obtain⟨g19,h⟩:=gG h
 obtain rfl:=sI h
 exact yW ⟨_,fin (vs:=[]) rfl eI rfl (lY rfl (qj (f:=I) (xs:=u18) (by simpa using g19) rfl) (dw (dw fD))),xW fz⟩
theorem TH {G:bZ}:bV G 154 B6:=gT 3 1 (aO TF (aO TN bz)) cd Tryz.func154 (fun a r h=>Xi a.1 a.2.1 a.2.2 r h)
def EX:((List Int)×State)→List V:=cA (rV 1 I) (oA (fun x:State=>(.fn 118 [.iptr (bH x) 0]:V)))
def EY (r:(List Int)):V×List V:=(.tup [],[.usl 1 (r.map I)])
noncomputable def B2 :=bi [true,false] EX EY fun x=>vd x.1 x.2
theorem acW {x_3:List Int}{pL:State}{r}(h:vd x_3 pL=some r):B2.F (EX (x_3,pL))=some (EY r):=aH (aJ (jc bo) (aI (iD bP))) h
noncomputable def acY :=aF Tryz.f117
noncomputable def TC :=cb [(154,B6)]
def acX (x:(List Int)×State)(r:(List Int)):St→Prop:=QF TC Tryz.f117 [true,false] (EX x) (EY r)
theorem Xf (x_3:List Int)(pL:State)(r:(List Int))(h:vd x_3 pL=some r):br TC Tryz.f117 [true,false] 1 (EX (x_3,pL)) (EY r):=by
 show Run _ _ (acX (x_3,pL) r) [.code acY] _
 refine rI 9 [(0,.hs 1 0 [] 1 0 (x_3.map I).length),(1,.fn 118 [.iptr (ae pL) 0])] [(1,some ⟨0,1,x_3.map I⟩)] 2 ?_
 unfold vd at h
 refine cq 3 [4,5] [.hs 1 0 [] 1 0 (x_3.map I).length,.hs 1 0 [] 1 0 (x_3.map I).length] 34 ?_
 refine oq 50 (I (len x_3)) rfl (bu rfl rfl rfl (vQ (f:=I) (xs:=x_3) rfl rfl)) ?_
 refine cq 1 [7] [.fn 118 [.iptr (ae pL) 0]] 66 ?_
 obtain⟨r3,hr3,h⟩:=bS h
 obtain⟨g4,h⟩:=gG h
 refine oq 82 (.tup []) rfl (b8 rfl rfl (cu rfl rfl rfl (li (ki rfl (gb (path:=[]) rfl rfl aX rfl)) (bd (bM rfl) (bd (l4 (dS (fS rfl) gL)) dx))) (ac0 hr3) (.inr rfl) (ju rfl rfl rfl rfl ec) rfl rfl rfl)) ?_
 try rw[iE (f:=I) (xs:=x_3) (ys:=r3) g4]
 refine aq 1 ?_
 obtain⟨g5,h⟩:=gG h
 obtain rfl:=sI h
 exact yW ⟨_,fin (vs:=[]) rfl eI rfl (lY rfl (qj (f:=I) (xs:=r3) (by simpa using g5) rfl) (dw fD)),xW fz⟩
theorem TD {G:bZ}:bV G 117 B2:=gT 2 1 (aO TH bz) cd Tryz.func117 (fun a r h=>Xf a.1 a.2 r h)
def Kx:(Contract×State×(Int×Int))→List V:=cA aM (cA bH (oA (fun x:Int×Int=>(.fn 71 [.iptr (I x.1) 0,.iptr (I x.2) 0]:V))))
def Kz (r:(List Int)):V×List V:=(.usl 1 (r.map I),[])
noncomputable def Ip :=bi [false,false,false] Kx Kz fun x=>Mk x.1 x.2.1 x.2.2
theorem Zy {c_1:Contract}{s_2:State}{di:Int×Int}{r}(h:Mk c_1 s_2 di=some r):Ip.F (Kx (c_1,s_2,di))=some (Kz r):=aH (aJ aU (aJ bP (aI (IK bo bo)))) h
noncomputable def Zz :=aF Tryz.f70
noncomputable abbrev um :=cL (cL (cR (cL (cR (cR Zz)))))
noncomputable def GM :=cb [(71,H3),(117,B2)]
def Ky (x:Contract×State×(Int×Int))(r:(List Int)):St→Prop:=QF GM Tryz.f70 [false,false,false] (Kx x) (Kz r)
theorem Qt (c_1:Contract)(s_2:State)(di:Int×Int):ch GM 0 (Ky (c_1,s_2,di)) um 0 (pZ c_1 s_2 di) (fun u=>(sT 42 [(4,.hp 1 0 [] 5 0 0),(7,.hs 2 0 [] 1 0 (u.map I).length)] [⟨0,5,[ae s_2]⟩,⟨0,1,u.map I⟩] 3)) fun x4=>(sT 42 [(2,.fn 71 [.iptr (I di.1) 0,.iptr (I di.2) 0]),(3,.hp 1 0 [] 2 0 0),(4,.hp 2 0 [] 5 0 0),(7,.hs 3 0 [] 1 0 (x4.2.map I).length),(12,.isl false (s_2.Duties.map ah)),(13,I (len s_2.Duties)),(14,I x4.1)] [⟨0,2,[aa c_1]⟩,⟨0,5,[ae s_2]⟩,⟨0,1,x4.2.map I⟩] 4):=eg (GN c_1 s_2 di) fun {Q K} hK self ih x4 y h hr hn=>by
 unfold mY at h
 refine cq 5 [15] [B (decide (x4.1<(len s_2.Duties)))] 20 ?_
 refine sq h ?_ ?_<;>intro h
 ·refine aq 1 ?_
  refine cq 5 [16] [I x4.1] 36 ?_
  obtain⟨e5,he5,h⟩:=bS h
  refine oq 52 (.iptr (ah e5) 0) rfl (ak rfl rfl rfl (ba rfl rfl rfl rfl he5)) ?_
  refine ck 6 [8,9] [] [68] [] [I x4.1,.hp 68 0 [] 4 0 0] [some ⟨0,4,[ah e5]⟩] 116 (by kernel_rfl) ?_
  refine dK [0,1,3,7,15,15,15,79,15,271,975,1999,4095,8191] rfl (by decide +kernel) ?_
  refine dq [68] [] (.hp 68 0 [] 4 0 3) rfl (al rfl rfl rfl) ?_
  refine dq [68] [] (I e5.Status) rfl (aN rfl rfl) ?_
  refine dk 2 [22,21] [B (e5.Status==1),B (e5.Status==1)] ?_
  obtain⟨y6,hy6,hy61,hy62⟩:=bL h
  have j6:∀u6,y6=.inr u6→Run GM 0 Q (.code (cR (cR (cL (cL (cR (cR um))))))::.blk 1::.code (cR (cR (cR um)))::.lp um::.blk 0::K) (sT 42 [(2,.fn 71 [.iptr (I di.1) 0,.iptr (I di.2) 0]),(3,.hp 1 0 [] 2 0 0),(4,.hp 2 0 [] 5 0 0),(7,.hs 3 0 [] 1 0 (x4.2.map I).length),(8,I x4.1),(12,.isl false (s_2.Duties.map ah)),(13,I (len s_2.Duties)),(14,I x4.1),(32,B u6)] [⟨0,2,[aa c_1]⟩,⟨0,5,[ae s_2]⟩,⟨0,1,x4.2.map I⟩] 4):=by
   intro u6 hu
   replace h:=hy62 u6 hu
   obtain⟨y7,hy7,hy71,hy72⟩:=bL h
   have j7:∀u7,y7=.inr u7→Run GM 0 Q (.blk 1::.code (cR (cR (cR um)))::.lp um::.blk 0::K) (sT 42 [(2,.fn 71 [.iptr (I di.1) 0,.iptr (I di.2) 0]),(3,.hp 1 0 [] 2 0 0),(4,.hp 2 0 [] 5 0 0),(7,.hs 3 0 [] 1 0 (u7.map I).length),(12,.isl false (s_2.Duties.map ah)),(13,I (len s_2.Duties)),(14,I x4.1)] [⟨0,2,[aa c_1]⟩,⟨0,5,[ae s_2]⟩,⟨0,1,u7.map I⟩] 4):=by
    intro u7 hu
    replace h:=hy72 u7 hu
    refine cq 5 [14] [I (ai (x4.1+1))] 36 ?_
    refine cZ ?_
    exact rf [2,3,4,7,12,13,14] [1,2,3] (ih _ _ h hr hn :)
   have r7:∀r',y7=.inl r'→∀st,Ky (c_1,s_2,di) r' st→Q st:=fun r' e st hq=>hr r' (hy71 r' e) st hq
   replace h:=hy7
   refine sq h ?_ ?_<;>intro h
   ·refine cq 3 [33,34] [.hs 3 0 [] 1 0 (x4.2.map I).length,I x4.1] 36 ?_
    refine oq 52 (.hs 36 0 [] 1 0 1) rfl (eW rfl (mo (f:=I) (xs:=[]) (z:=I (0)) (es:=[I x4.1]) (ws:=[I x4.1]) rfl rfl rfl (by decide) rfl (d9 rfl) rfl)) ?_
    obtain⟨a8,ha8,h⟩:=bS h
    refine oq 68 (.hs 52 0 [] 1 0 (a8.map I).length) rfl (ks rfl rfl rfl rfl rfl (oz (path:=[]) (f:=I) (xs:=x4.2) (ys:=[x4.1]) rfl rfl (uT rfl rfl rfl) rfl rfl rfl aX rfl (by decide) rh ha8 rfl rU)) ?_
    refine cq 2 [7] [.hs 52 0 [] 1 0 (a8.map I).length] 84 ?_
    exact rf [2,3,4,7,12,13,14] [1,2,52] (j7 _ (aj h) :)
   ·refine aq 1 ?_
    exact rf [2,3,4,7,12,13,14] [1,2,3] (j7 _ (aj h) :)
  have r6:∀r',y6=.inl r'→∀st,Ky (c_1,s_2,di) r' st→Q st:=fun r' e st hq=>hr r' (hy61 r' e) st hq
  replace h:=hy6
  refine sp 22 h rfl ?_ ?_<;>intro h
  ·refine dk 1 [23] [.fn 71 [.iptr (I di.1) 0,.iptr (I di.2) 0]] ?_
   refine dy [68] [] (ah e5) rfl (aN rfl rfl) ?_
   refine dy [1] [] (.hp 1 0 [] 2 0 1) rfl (al rfl rfl rfl) ?_
   refine dy [1] [] (.isl false (c_1.Clauses.map ap)) rfl (aN rfl rfl) ?_
   refine dy [68] [] (.hp 68 0 [] 4 0 0) rfl (al rfl rfl rfl) ?_
   refine dy [68] [] (I e5.Clause) rfl (aN rfl rfl) ?_
   obtain⟨e9,he9,h⟩:=bS h
   refine dy [] [] (.iptr (au e9) 0) rfl (ak rfl rfl rfl (ba rfl rfl rfl rfl he9)) ?_
   refine dy [] [] (au e9) rfl (aN rfl rfl) ?_
   obtain⟨r10,hr10,h⟩:=bS h
   refine dy [] [] (B r10) rfl (cP (Zl hr10)) ?_ (dF rfl rfl rfl rfl (bd (bM rfl) (bd (bM rfl) (bd (bM rfl) (bd (bM rfl) dx)))) (Zl hr10) (.inr rfl) rfl)
   refine dk 1 [32] [B r10] ?_
   refine de 340 rfl rfl ?_
   exact rf [2,3,4,7,8,12,13,14,32] [1,2,3] (j6 _ (aj h) :)
  ·refine dk 10 [32,31,30,29,28,27,26,25,24,23] [B false,.und,.und,.und,.und,.und,.und,.und,.und,.und] ?_
   refine de 340 rfl rfl ?_
   exact rf [2,3,4,7,8,12,13,14,32] [1,2,3] (j6 _ (aj h) :)
 ·refine aq 1 ?_
  exact rf [4,7] [2,3] (hn _ (aj h) :) (hk:=hK)
theorem aam (c_1:Contract)(s_2:State)(di:Int×Int)(r:(List Int))(h:Mk c_1 s_2 di=some r):br GM Tryz.f70 [false,false,false] 0 (Kx (c_1,s_2,di)) (Kz r):=by
 show Run _ _ (Ky (c_1,s_2,di) r) [.code Zz] _
 refine rI 42 [(0,aa c_1),(1,ae s_2),(2,.fn 71 [.iptr (I di.1) 0,.iptr (I di.2) 0])] [] 1 ?_
 unfold Mk at h
 refine ck 8 [3,4] [] [1,17] [] [.hp 1 0 [] 2 0 0,.hp 17 0 [] 5 0 0] [some ⟨0,2,[aa c_1]⟩,some ⟨0,5,[ae s_2]⟩] 49 (by kernel_rfl) ?_
 refine oq 65 (.hs 49 0 [] 1 0 0) rfl (eW rfl (mo (f:=I) (xs:=[]) (z:=I (0)) (es:=[]) (ws:=[]) rfl rfl rfl (by decide) rfl (d9 rfl) rfl)) ?_
 refine cq 7 [7,12] [.hs 49 0 [] 1 0 0,.isl false (s_2.Duties.map ah)] 113 ?_
 refine oq 129 (I (len s_2.Duties)) rfl (bu rfl rfl rfl (bG rfl)) ?_
 refine cq 3 [14] [I (0)] 145 ?_
 obtain⟨y11,hy11,hy111,hy112⟩:=bJ h
 refine bN rfl ?_
 refine rf [2,3,4,7,12,13,14] [1,17,49] (Qt c_1 s_2 di rfl (0,[]) _ hy11 (fun r' e st hq=>by rw[hy111 r' e] at hq;exact hq) fun u11 hu=>?_)
 replace h:=hy112 u11 hu
 refine cq 4 [38,39] [.hs 2 0 [] 1 0 (u11.map I).length,.fn 118 [.hp 1 0 [] 5 0 0]] 35 ?_
 obtain⟨r12,hr12,h⟩:=bS h
 obtain⟨g13,h⟩:=gG h
 refine oq 51 (.tup []) rfl (b8 rfl rfl (cu rfl rfl rfl (li (ki rfl (gb (path:=[]) rfl rfl aX rfl)) (bd (l4 (dS (l6 (path:=[]) rfl rfl aX rfl rfl) gL)) dx)) (acW hr12) (.inl (by simp[cX,dM,str,rJ (f:=I) GT])) (ju rfl rfl rfl rfl ec) rfl rfl rfl)) ?_
 try rw[iE (f:=I) (xs:=u11) (ys:=r12) g13]
 refine cq 6 [6] [.hs 2 0 [] 1 0 (r12.map I).length] 83 ?_
 obtain rfl:=sI h
 exact cr rfl ⟨_,fin (vs:=[.hs 2 0 [] 1 0 (r12.map I).length]) rfl (gC (gk rfl (dZ rfl rfl)) eI) rfl (dw (dw (dw fD))),fz⟩
theorem X3 {G:bZ}:bV G 70 Ip:=gT 3 0 (aO Xb (aO TD bz)) cd Tryz.func70 (fun a r h=>aam a.1 a.2.1 a.2.2 r h)
def Km:(Contract×State×(List Int))→List V:=cA aM (cA bH (oA (fG I)))
def Kn (r:Int):V×List V:=(I r,[])
noncomputable def Ij :=bi [false,false,false] Km Kn fun x=>Mg x.1 x.2.1 x.2.2
theorem Zr {c_1:Contract}{s_2:State}{d4:List Int}{r}(h:Mg c_1 s_2 d4=some r):Ij.F (Km (c_1,s_2,d4))=some (Kn r):=aH (aJ aU (aJ bP (aI (bW bo)))) h
noncomputable def Zt :=aF Tryz.f69
noncomputable def Qn :=cb []
def Zs (x:Contract×State×(List Int))(r:Int):St→Prop:=QF Qn Tryz.f69 [false,false,false] (Km x) (Kn r)
theorem Qp (c_1:Contract)(s_2:State)(d4:List Int):ch Qn 0 (Zs (c_1,s_2,d4)) (cL (cL (cR (cL (cR (cR Zt)))))) 0 (Mh c_1 s_2 d4) (fun u=>(sT 31 [(7,I u)] [] 1)) fun x4=>(sT 31 [(3,.hp 1 0 [] 2 0 0),(4,.hp 2 0 [] 5 0 0),(7,I x4.1),(10,.isl false (d4.map I)),(11,I (len d4)),(12,I x4.2)] [⟨0,2,[aa c_1]⟩,⟨0,5,[ae s_2]⟩] 3):=eg (Qo c_1 s_2 d4) fun {Q K} hK self ih x4 y h hr hn=>by
 unfold vu at h
 refine cq 5 [13] [B (decide (x4.2<(len d4)))] 19 ?_
 refine sq h ?_ ?_<;>intro h
 ·refine aq 1 ?_
  refine aq 4 ?_
  obtain⟨e5,he5,h⟩:=bS h
  refine oq 35 (.iptr (I e5) 0) rfl (ak rfl rfl rfl (ba rfl rfl rfl rfl he5)) ?_
  refine cq 3 [9] [I e5] 67 ?_
  refine dK [0,0,2,0,8,0,56,120,248,510,1022,2046,4095,8191] rfl (by decide +kernel) ?_
  refine dk 1 [16] [I x4.1] ?_
  refine dq [1] [] (.hp 1 0 [] 2 0 1) rfl (al rfl rfl rfl) ?_
  refine dq [1] [] (.isl false (c_1.Clauses.map ap)) rfl (aN rfl rfl) ?_
  refine dq [2] [] (.hp 2 0 [] 5 0 2) rfl (al rfl rfl rfl) ?_
  refine dq [2] [] (.isl false (s_2.Duties.map ah)) rfl (aN rfl rfl) ?_
  refine dk 1 [21] [I e5] ?_
  obtain⟨e6,he6,h⟩:=bS h
  refine dq [] [] (.iptr (ah e6) 0) rfl (ak rfl rfl rfl (ba rfl rfl rfl rfl he6)) ?_
  refine dq [] [] (.iptr (ah e6) 0) rfl (al rfl rfl rfl) ?_
  refine dq [] [] (I e6.Clause) rfl (aN rfl rfl) ?_
  obtain⟨e7,he7,h⟩:=bS h
  refine dq [] [] (.iptr (au e7) 0) rfl (ak rfl rfl rfl (ba rfl rfl rfl rfl he7)) ?_
  refine dq [] [] (.iptr (au e7) 5) rfl (al rfl rfl rfl) ?_
  refine dq [] [] (I e7.Amount) rfl (aN rfl rfl) ?_
  refine dk 2 [7,28] [I (ai (x4.1+e7.Amount)),I (ai (x4.1+e7.Amount))] ?_
  refine de 291 rfl rfl ?_
  refine cq 5 [12] [I (ai (x4.2+1))] 323 ?_
  refine cZ ?_
  exact rf [3,4,7,10,11,12] [1,2] (ih _ _ h hr hn :)
 ·refine aq 1 ?_
  exact rf [7] [] (hn _ (aj h) :) (hk:=hK)
theorem aaf (c_1:Contract)(s_2:State)(d4:List Int)(r:Int)(h:Mg c_1 s_2 d4=some r):br Qn Tryz.f69 [false,false,false] 0 (Km (c_1,s_2,d4)) (Kn r):=by
 show Run _ _ (Zs (c_1,s_2,d4) r) [.code Zt] _
 refine rI 31 [(0,aa c_1),(1,ae s_2),(2,.isl false (d4.map I))] [] 1 ?_
 unfold Mg at h
 refine ck 14 [3,4,7,10] [] [1,17] [] [.hp 1 0 [] 2 0 0,.hp 17 0 [] 5 0 0,I (0),.isl false (d4.map I)] [some ⟨0,2,[aa c_1]⟩,some ⟨0,5,[ae s_2]⟩] 81 (by kernel_rfl) ?_
 refine oq 97 (I (len d4)) rfl (bu rfl rfl rfl (bG rfl)) ?_
 refine cq 3 [12] [I (0)] 113 ?_
 obtain⟨y8,hy8,hy81,hy82⟩:=bJ h
 refine bN rfl ?_
 refine rf [3,4,7,10,11,12] [1,17] (Qp c_1 s_2 d4 rfl (0,0) _ hy8 (fun r' e st hq=>by rw[hy81 r' e] at hq;exact hq) fun u8 hu=>?_)
 replace h:=hy82 u8 hu
 refine cq 5 [6] [I u8] 33 ?_
 obtain rfl:=sI h
 exact rP [I u8]
theorem XY {G:bZ}:bV G 69 Ij:=gT 3 0 bz cd Tryz.func69 (fun a r h=>aaf a.1 a.2.1 a.2.2 r h)
def J6:(Contract×State×Int×Int)→List V:=cA aM (cA bH (cA I (oA I)))
def J7 (r:Int×Bool):V×List V:=(.tup [I r.1,B r.2],[])
noncomputable def HS :=bi [false,false,false,false] J6 J7 fun x=>Ll x.1 x.2.1 x.2.2.1 x.2.2.2
theorem ad6 {c_1:Contract}{s_2:State}{bK:Int}{cJ:Int}{r}(h:Ll c_1 s_2 bK cJ=some r):HS.F (J6 (c_1,s_2,bK,cJ))=some (J7 r):=aH (aJ aU (aJ bP (aJ bo (aI bo)))) h
noncomputable def ad8 :=aF Tryz.f29
noncomputable def Zk :=cb [(68,AM),(70,Ip),(69,Ij)]
def ad7 (x:Contract×State×Int×Int)(r:Int×Bool):St→Prop:=QF Zk Tryz.f29 [false,false,false,false] (J6 x) (J7 r)
theorem ZY (c_1:Contract)(s_2:State)(bK:Int)(cJ:Int)(r:Int×Bool)(h:Ll c_1 s_2 bK cJ=some r):br Zk Tryz.f29 [false,false,false,false] 0 (J6 (c_1,s_2,bK,cJ)) (J7 r):=by
 show Run _ _ (ad7 (c_1,s_2,bK,cJ) r) [.code ad8] _
 refine rI 24 [(0,aa c_1),(1,ae s_2),(2,I bK),(3,I cJ)] [] 1 ?_
 unfold Ll at h
 refine ck 16 [4,5,6,7,10,11,12,13] [] [1,17,33,49] [] [.hp 1 0 [] 2 0 0,.hp 17 0 [] 5 0 0,.hp 33 0 [] 1 0 0,.hp 49 0 [] 1 0 0,aa c_1,ae s_2,I bK,I cJ] [some ⟨0,2,[aa c_1]⟩,some ⟨0,5,[ae s_2]⟩,some ⟨0,1,[I bK]⟩,some ⟨0,1,[I cJ]⟩] 161 (by kernel_rfl) ?_
 refine oq 177 (.hs 161 0 [] 1 0 2) rfl (eW rfl (mo (f:=I) (xs:=[]) (z:=I (0)) (es:=[I bK,I cJ]) (ws:=[I bK,I cJ]) rfl rfl rfl (by decide) rfl (d9 rfl) rfl)) ?_
 obtain⟨r5,hr5,h⟩:=bS h
 refine oq 193 (B r5) rfl (b8 rfl rfl (cu rfl rfl rfl (bd (bM rfl) (bd (bM rfl) (bd (JO rfl rfl (eP (f:=I) (g:=I) (xs:=[bK,cJ]) rfl rfl (co ml))) dx))) (abl hr5) (.inl rfl) ec rfl rfl rfl)) ?_
 refine cq 2 [16] [B (!r5)] 209 ?_
 refine sq h ?_ ?_<;>intro h
 ·refine cq 5 [8,9] [I (0),B false] 241 ?_
  obtain rfl:=sI h
  exact rP [I (0),B false]
 ·refine aq 1 ?_
  refine aq 1 ?_
  refine dK [0,0,0,0,0,28,63,127,255] rfl (by decide +kernel) ?_
  refine dq [1] [] (aa c_1) rfl (aN rfl rfl) ?_
  refine dq [17] [] (ae s_2) rfl (aN rfl rfl) ?_
  refine dq [1] [] (aa c_1) rfl (aN rfl rfl) ?_
  refine dq [17] [] (ae s_2) rfl (aN rfl rfl) ?_
  refine dq [] [] (.fn 71 [.hp 33 0 [] 1 0 0,.hp 49 0 [] 1 0 0]) rfl (adE rfl rfl rfl) ?_
  obtain⟨r6,hr6,h⟩:=bS h
  refine dq [33,49] [] (.hs 289 0 [] 1 0 (r6.map I).length) rfl (b8 rfl rfl (cu rfl rfl rfl (bd (bM rfl) (bd (bM rfl) (bd (l4 (dS (l6 (path:=[]) rfl rfl aX rfl rfl) (dS (l6 (path:=[]) rfl rfl aX rfl rfl) gL))) dx))) (Zy hr6) (.inl (by simp[cX,dM,str,rJ (f:=I) GT])) ec rfl rfl rfl)) ?_ (dF rfl rfl rfl rfl (bd (bM rfl) (bd (bM rfl) (bd (l4 (dS (l6 (path:=[]) rfl rfl aX rfl rfl) (dS (l6 (path:=[]) rfl rfl aX rfl rfl) gL))) dx))) (by exact Zy hr6) (by exact (.inl (by simp[cX,dM,str,rJ (f:=I) GT]))) rfl)
  obtain⟨r7,hr7,h⟩:=bS h
  refine dq [289] [] (I r7) rfl (b8 rfl rfl (cu rfl rfl rfl (bd (bM rfl) (bd (bM rfl) (bd (JO rfl rfl (eP (f:=I) (g:=I) (xs:=r6) rfl rfl (co ml))) dx))) (Zr hr7) (.inl rfl) ec rfl rfl rfl)) ?_ (dF rfl rfl rfl rfl (bd (bM rfl) (bd (bM rfl) (bd (JO rfl rfl (eP (f:=I) (g:=I) (xs:=r6) rfl rfl (co ml))) dx))) (Zr hr7) (.inl rfl) rfl)
  refine dk 2 [9,8] [B true,I r7] ?_
  refine de 353 rfl rfl ?_
  obtain rfl:=sI h
  exact rP [I r7,B true]
theorem WK {G:bZ}:bV G 29 HS:=gT 4 0 (aO Rt (aO X3 (aO XY bz))) cd Tryz.func29 (fun a r h=>ZY a.1 a.2.1 a.2.2.1 a.2.2.2 r h)
def DQ:((List ac)×(List ac))→List V:=cA (fG str) (oA (fG str))
def DR (r:Bool):V×List V:=(B r,[])
noncomputable def uX :=bi [false,false] DQ DR fun x=>wB x.1 x.2
theorem Sf {a_1:List ac}{b_2:List ac}{r}(h:wB a_1 b_2=some r):uX.F (DQ (a_1,b_2))=some (DR r):=aH (aJ (bW bT) (aI (bW bT))) h
noncomputable def Sh :=aF Tryz.f49
noncomputable def Lh :=cb []
def Sg (x:(List ac)×(List ac))(r:Bool):St→Prop:=QF Lh Tryz.f49 [false,false] (DQ x) (DR r)
theorem NL (a_1:List ac)(b_2:List ac):ch Lh 0 (Sg (a_1,b_2)) (cL (cL (cR (cL (cR (cR Sh)))))) 0 (tv a_1 b_2) (fun u=>(sT 26 [] [] 1)) fun x3=>(sT 26 [(0,.isl false (a_1.map str)),(1,.isl false (b_2.map str)),(5,I x3)] [] 1):=eg (zg a_1 b_2) fun {Q K} hK self ih x3 y h hr hn=>by
 unfold nq at h
 refine cq 5 [11,12] [I x3,.isl false (a_1.map str)] 33 ?_
 refine oq 49 (I (len a_1)) rfl (bu rfl rfl rfl (bG rfl)) ?_
 refine cq 2 [14] [B (decide (x3<(len a_1)))] 65 ?_
 refine sq h ?_ ?_<;>intro h
 ·refine aq 1 ?_
  refine aq 3 ?_
  refine dK [0,0,3,7,0,0,48,112,255] rfl (by decide +kernel) ?_
  refine dk 2 [18,17] [I x3,.isl false (a_1.map str)] ?_
  obtain⟨e4,he4,h⟩:=bS h
  refine dq [] [] (.iptr (str e4) 0) rfl (ak rfl rfl rfl (ba rfl rfl rfl rfl he4)) ?_
  refine dq [] [] (str e4) rfl (aN rfl rfl) ?_
  refine dk 2 [22,21] [I x3,.isl false (b_2.map str)] ?_
  obtain⟨e5,he5,h⟩:=bS h
  refine dq [] [] (.iptr (str e5) 0) rfl (ak rfl rfl rfl (ba rfl rfl rfl rfl he5)) ?_
  refine dq [] [] (str e5) rfl (aN rfl rfl) ?_
  refine dk 1 [25] [B (!(e4==e5))] ?_
  refine de 209 rfl rfl ?_
  refine sq h ?_ ?_<;>intro h
  ·refine cq 4 [4] [B false] 225 ?_
   exact cr rfl (hr _ (aj h) _ (qp [B false]))
  ·refine aq 1 ?_
   refine cq 6 [5] [I (ai (x3+1))] 257 ?_
   refine cZ ?_
   exact rf [0,1,5] [] (ih _ _ h hr hn :)
 ·refine aq 1 ?_
  exact rf [] [] (hn _ (aj h) :) (hk:=hK)
theorem WB (a_1:List ac)(b_2:List ac)(r:Bool)(h:wB a_1 b_2=some r):br Lh Tryz.f49 [false,false] 0 (DQ (a_1,b_2)) (DR r):=by
 show Run _ _ (Sg (a_1,b_2) r) [.code Sh] _
 refine rI 26 [(0,.isl false (a_1.map str)),(1,.isl false (b_2.map str))] [] 1 ?_
 unfold wB at h
 refine cq 8 [6] [.isl false (a_1.map str)] 33 ?_
 refine oq 49 (I (len a_1)) rfl (bu rfl rfl rfl (bG rfl)) ?_
 refine cq 1 [8] [.isl false (b_2.map str)] 65 ?_
 refine oq 81 (I (len b_2)) rfl (bu rfl rfl rfl (bG rfl)) ?_
 refine cq 2 [10] [B ((len a_1) != (len b_2))] 97 ?_
 refine sq h ?_ ?_<;>intro h
 ·refine cq 4 [4] [B false] 113 ?_
  obtain rfl:=sI h
  exact rP [B false]
 ·refine aq 1 ?_
  refine cq 6 [5] [I (0)] 113 ?_
  obtain⟨y6,hy6,hy61,hy62⟩:=bJ h
  refine bN rfl ?_
  refine rf [0,1,5] [] (NL a_1 b_2 rfl 0 _ hy6 (fun r' e st hq=>by rw[hy61 r' e] at hq;exact hq) fun u6 hu=>?_)
  replace h:=hy62 u6 hu
  refine cq 4 [4] [B true] 17 ?_
  obtain rfl:=sI h
  exact rP [B true]
theorem I2 {G:bZ}:bV G 49 uX:=gT 2 0 bz cd Tryz.func49 (fun a r h=>WB a.1 a.2 r h)
def wx:(Condition×Condition)→List V:=cA bF (oA bF)
def wy (r:Bool):V×List V:=(B r,[])
noncomputable def sa (bq:(Condition×Condition)→Option Bool):Ent:=bi [false,false] wx wy bq
theorem HR (bq:(Condition×Condition)→Option Bool){x}{r}(h:bq x=some r):(sa bq).F (wx x)=some (wy r):=aH (aJ dC (aI dC)) h
def DD:((List Condition)×(List Condition))→List V:=cA (fG aE) (oA (fG aE))
def DE (r:Bool):V×List V:=(B r,[])
noncomputable def Ba (bq:(Condition×Condition)→Option Bool):Ent:=bi [false,false] DD DE fun x=>wz bq x.1 x.2
theorem abK (bq:(Condition×Condition)→Option Bool){a_1:List Condition}{b_2:List Condition}{r}(h:wz bq a_1 b_2=some r):(Ba bq).F (DD (a_1,b_2))=some (DE r):=aH (aJ (bW fC) (aI (bW fC))) h
noncomputable def RV :=aF Tryz.f179
noncomputable def Ld (bq:(Condition×Condition)→Option Bool):Env:=cb [(148,(sa bq))]
def RU (bq:(Condition×Condition)→Option Bool)(x:(List Condition)×(List Condition))(r:Bool):St→Prop:=QF (Ld bq) Tryz.f179 [false,false] (DD x) (DE r)
theorem NI (bq:(Condition×Condition)→Option Bool)(a_1:List Condition)(b_2:List Condition):ch (Ld bq) 0 (RU bq (a_1,b_2)) (cL (cL (cR (cL (cR (cR RV)))))) 0 (qT bq a_1 b_2) (fun u=>(sT 27 [] [] 1)) fun x3=>(sT 27 [(0,.isl false (a_1.map aE)),(1,.isl false (b_2.map aE)),(5,I x3)] [] 1):=eg (zd bq a_1 b_2) fun {Q K} hK self ih x3 y h hr hn=>by
 unfold lr at h
 refine cq 5 [11,12] [I x3,.isl false (a_1.map aE)] 33 ?_
 refine oq 49 (I (len a_1)) rfl (bu rfl rfl rfl (bG rfl)) ?_
 refine cq 2 [14] [B (decide (x3<(len a_1)))] 65 ?_
 refine sq h ?_ ?_<;>intro h
 ·refine aq 1 ?_
  refine aq 3 ?_
  refine dK [0,0,3,7,0,0,48,112,255,511] rfl (by decide +kernel) ?_
  refine dk 2 [18,17] [I x3,.isl false (a_1.map aE)] ?_
  obtain⟨e4,he4,h⟩:=bS h
  refine dq [] [] (.iptr (ao e4) 0) rfl (ak rfl rfl rfl (ba rfl rfl (dA e4) rfl he4)) ?_
  refine dq [] [] (ao e4) rfl (aN rfl rfl) ?_
  refine dk 2 [22,21] [I x3,.isl false (b_2.map aE)] ?_
  obtain⟨e5,he5,h⟩:=bS h
  refine dq [] [] (.iptr (ao e5) 0) rfl (ak rfl rfl rfl (ba rfl rfl (dA e5) rfl he5)) ?_
  refine dq [] [] (ao e5) rfl (aN rfl rfl) ?_
  obtain⟨r6,hr6,h⟩:=bS h
  refine dq [] [] (B r6) rfl (b8 rfl rfl (cu rfl rfl rfl (bd (bM rfl) (bd (bM rfl) dx)) (HR bq hr6) (.inr rfl) ec rfl rfl rfl)) ?_ (dF rfl rfl rfl rfl (bd (bM rfl) (bd (bM rfl) dx)) (HR bq hr6) (.inr rfl) rfl)
  refine dk 1 [26] [B (!r6)] ?_
  refine de 225 rfl rfl ?_
  refine sq h ?_ ?_<;>intro h
  ·refine cq 4 [4] [B false] 241 ?_
   exact cr rfl (hr _ (aj h) _ (qp [B false]))
  ·refine aq 1 ?_
   refine cq 6 [5] [I (ai (x3+1))] 273 ?_
   refine cZ ?_
   exact rf [0,1,5] [] (ih _ _ h hr hn :)
 ·refine aq 1 ?_
  exact rf [] [] (hn _ (aj h) :) (hk:=hK)
theorem Wv (bq:(Condition×Condition)→Option Bool)(a_1:List Condition)(b_2:List Condition)(r:Bool)(h:wz bq a_1 b_2=some r):br (Ld bq) Tryz.f179 [false,false] 0 (DD (a_1,b_2)) (DE r):=by
 show Run _ _ (RU bq (a_1,b_2) r) [.code RV] _
 refine rI 27 [(0,.isl false (a_1.map aE)),(1,.isl false (b_2.map aE))] [] 1 ?_
 unfold wz at h
 refine cq 8 [6] [.isl false (a_1.map aE)] 33 ?_
 refine oq 49 (I (len a_1)) rfl (bu rfl rfl rfl (bG rfl)) ?_
 refine cq 1 [8] [.isl false (b_2.map aE)] 65 ?_
 refine oq 81 (I (len b_2)) rfl (bu rfl rfl rfl (bG rfl)) ?_
 refine cq 2 [10] [B ((len a_1) != (len b_2))] 97 ?_
 refine sq h ?_ ?_<;>intro h
 ·refine cq 4 [4] [B false] 113 ?_
  obtain rfl:=sI h
  exact rP [B false]
 ·refine aq 1 ?_
  refine cq 6 [5] [I (0)] 113 ?_
  obtain⟨y7,hy7,hy71,hy72⟩:=bJ h
  refine bN rfl ?_
  refine rf [0,1,5] [] (NI bq a_1 b_2 rfl 0 _ hy7 (fun r' e st hq=>by rw[hy71 r' e] at hq;exact hq) fun u7 hu=>?_)
  replace h:=hy72 u7 hu
  refine cq 4 [4] [B true] 17 ?_
  obtain rfl:=sI h
  exact rP [B true]
theorem RX {G:bZ}(bq:(Condition×Condition)→Option Bool)(MS:bV G 148 (sa bq)):bV G 179 (Ba bq):=gT 2 0 (aO MS bz) cd Tryz.func179 (fun a r h=>Wv bq a.1 a.2 r h)
noncomputable def A9 :=sa (aL pU)
theorem abH {a_1:Condition}{b_2:Condition}{r}(h:A8 a_1 b_2=some r):A9.F (wx (a_1,b_2))=some (wy r):=HR (aL pU) h
noncomputable def abJ :=aF Tryz.f148
noncomputable def RS (bq:(Condition×Condition)→Option Bool):Env:=cb [(179,(Ba bq))]
def abI (bq:(Condition×Condition)→Option Bool)(x:Condition×Condition)(r:Bool):St→Prop:=QF (RS bq) Tryz.f148 [false,false] (wx x) (wy r)
theorem Wu (bq:(Condition×Condition)→Option Bool)(a_1:Condition)(b_2:Condition)(r:Bool)(h:tq bq a_1 b_2=some r):br (RS bq) Tryz.f148 [false,false] 0 (wx (a_1,b_2)) (wy r):=by
 show Run _ _ (abI bq (a_1,b_2) r) [.code abJ] _
 refine rI 26 [(0,ao a_1),(1,ao b_2)] [] 1 ?_
 unfold tq at h
 refine ck 15 [2,3,9] [] [1,17] [] [.hp 1 0 [] 4 0 0,.hp 17 0 [] 4 0 0,B (a_1.Op != b_2.Op)] [some ⟨0,4,[ao a_1]⟩,some ⟨0,4,[ao b_2]⟩] 129 (by kernel_rfl) ?_
 refine sq h ?_ ?_<;>intro h
 ·refine cq 4 [4] [B false] 145 ?_
  obtain rfl:=sI h
  exact rP [B false]
 ·refine aq 1 ?_
  refine cq 9 [14] [B (!(a_1.Name==b_2.Name))] 209 ?_
  refine sq h ?_ ?_<;>intro h
  ·refine cq 4 [4] [B false] 225 ?_
   obtain rfl:=sI h
   exact rP [B false]
  ·refine aq 1 ?_
   refine cq 9 [19] [B (a_1.Day != b_2.Day)] 289 ?_
   refine sq h ?_ ?_<;>intro h
   ·refine cq 4 [4] [B false] 305 ?_
    obtain rfl:=sI h
    exact rP [B false]
   ·refine aq 1 ?_
    refine cq 7 [21,23] [.isl false (a_1.Parts.map aE),.isl false (b_2.Parts.map aE)] 353 ?_
    obtain⟨r3,hr3,h⟩:=bS h
    refine oq 369 (B r3) rfl (b8 rfl rfl (cu rfl rfl rfl (bd (bM rfl) (bd (bM rfl) dx)) (abK bq hr3) (.inr rfl) ec rfl rfl rfl)) ?_
    refine cq 2 [25] [B (!r3)] 385 ?_
    refine sq h ?_ ?_<;>intro h
    ·refine cq 4 [4] [B false] 401 ?_
     obtain rfl:=sI h
     exact rP [B false]
    ·refine aq 1 ?_
     refine cq 4 [4] [B true] 401 ?_
     obtain rfl:=sI h
     exact rP [B true]
theorem RT {G:bZ}:bV G 148 A9:=kx fun bq MS=>gT 2 0 (aO (RX bq MS) bz) cd Tryz.func148 (fun a r h=>Wu bq a.1 a.2 r h)
def Dz:(Clause×Clause)→List V:=cA ap (oA ap)
def DA (r:Bool):V×List V:=(B r,[])
noncomputable def A5 :=bi [false,false] Dz DA fun x=>ww x.1 x.2
theorem RN {a_1:Clause}{b_2:Clause}{r}(h:ww a_1 b_2=some r):A5.F (Dz (a_1,b_2))=some (DA r):=aH (aJ dI (aI dI)) h
noncomputable def abF :=aF Tryz.f104
noncomputable def RM :=cb [(148,A9)]
def abE (x:Clause×Clause)(r:Bool):St→Prop:=QF RM Tryz.f104 [false,false] (Dz x) (DA r)
theorem Wr (a_1:Clause)(b_2:Clause)(r:Bool)(h:ww a_1 b_2=some r):br RM Tryz.f104 [false,false] 0 (Dz (a_1,b_2)) (DA r):=by
 show Run _ _ (abE (a_1,b_2) r) [.code abF] _
 refine rI 51 [(0,au a_1),(1,au b_2)] [] 1 ?_
 unfold ww at h
 refine ck 15 [2,3,9] [] [1,17] [] [.hp 1 0 [] 12 0 0,.hp 17 0 [] 12 0 0,B (!(a_1.Id==b_2.Id))] [some ⟨0,12,[au a_1]⟩,some ⟨0,12,[au b_2]⟩] 129 (by kernel_rfl) ?_
 refine sq h ?_ ?_<;>intro h
 ·refine cq 4 [4] [B false] 145 ?_
  obtain rfl:=sI h
  exact rP [B false]
 ·refine aq 1 ?_
  refine cq 9 [14] [B (a_1.Kind != b_2.Kind)] 209 ?_
  refine sq h ?_ ?_<;>intro h
  ·refine cq 4 [4] [B false] 225 ?_
   obtain rfl:=sI h
   exact rP [B false]
  ·refine aq 1 ?_
   refine cq 9 [19] [B (a_1.Party != b_2.Party)] 289 ?_
   refine sq h ?_ ?_<;>intro h
   ·refine cq 4 [4] [B false] 305 ?_
    obtain rfl:=sI h
    exact rP [B false]
   ·refine aq 1 ?_
    refine cq 9 [24] [B (!(a_1.Action==b_2.Action))] 369 ?_
    refine sq h ?_ ?_<;>intro h
    ·refine cq 4 [4] [B false] 385 ?_
     obtain rfl:=sI h
     exact rP [B false]
    ·refine aq 1 ?_
     refine cq 9 [29] [B (a_1.Other != b_2.Other)] 449 ?_
     refine sq h ?_ ?_<;>intro h
     ·refine cq 4 [4] [B false] 465 ?_
      obtain rfl:=sI h
      exact rP [B false]
     ·refine aq 1 ?_
      refine cq 9 [34] [B (a_1.Amount != b_2.Amount)] 529 ?_
      refine sq h ?_ ?_<;>intro h
      ·refine cq 4 [4] [B false] 545 ?_
       obtain rfl:=sI h
       exact rP [B false]
      ·refine aq 1 ?_
       refine cq 7 [36,38] [ao a_1.When,ao b_2.When] 593 ?_
       obtain⟨r3,hr3,h⟩:=bS h
       refine oq 609 (B r3) rfl (cP (abH hr3)) ?_
       refine cq 2 [40] [B (!r3)] 625 ?_
       refine sq h ?_ ?_<;>intro h
       ·refine cq 4 [4] [B false] 641 ?_
        obtain rfl:=sI h
        exact rP [B false]
       ·refine aq 1 ?_
        refine cq 9 [45] [B (a_1.Within != b_2.Within)] 705 ?_
        refine sq h ?_ ?_<;>intro h
        ·refine cq 4 [4] [B false] 721 ?_
         obtain rfl:=sI h
         exact rP [B false]
        ·refine aq 1 ?_
         refine cq 9 [50] [B (!(a_1.Repair==b_2.Repair))] 785 ?_
         refine sq h ?_ ?_<;>intro h
         ·refine cq 4 [4] [B false] 801 ?_
          obtain rfl:=sI h
          exact rP [B false]
         ·refine aq 1 ?_
          refine cq 4 [4] [B true] 801 ?_
          obtain rfl:=sI h
          exact rP [B true]
theorem RO {G:bZ}:bV G 104 A5:=gT 2 0 (aO RT bz) cd Tryz.func104 (fun a r h=>Wr a.1 a.2 r h)
def DB:((List Clause)×(List Clause))→List V:=cA (fG ap) (oA (fG ap))
def DC (r:Bool):V×List V:=(B r,[])
noncomputable def A7 :=bi [false,false] DB DC fun x=>A6 x.1 x.2
theorem abG {a_1:List Clause}{b_2:List Clause}{r}(h:A6 a_1 b_2=some r):A7.F (DB (a_1,b_2))=some (DC r):=aH (aJ (bW dI) (aI (bW dI))) h
noncomputable def RQ :=aF Tryz.f50
noncomputable def Lc :=cb [(104,A5)]
def RP (x:(List Clause)×(List Clause))(r:Bool):St→Prop:=QF Lc Tryz.f50 [false,false] (DB x) (DC r)
theorem NH (a_1:List Clause)(b_2:List Clause):ch Lc 0 (RP (a_1,b_2)) (cL (cL (cR (cL (cR (cR RQ)))))) 0 (tp a_1 b_2) (fun u=>(sT 27 [] [] 1)) fun x3=>(sT 27 [(0,.isl false (a_1.map ap)),(1,.isl false (b_2.map ap)),(5,I x3)] [] 1):=eg (zc a_1 b_2) fun {Q K} hK self ih x3 y h hr hn=>by
 unfold nm at h
 refine cq 5 [11,12] [I x3,.isl false (a_1.map ap)] 33 ?_
 refine oq 49 (I (len a_1)) rfl (bu rfl rfl rfl (bG rfl)) ?_
 refine cq 2 [14] [B (decide (x3<(len a_1)))] 65 ?_
 refine sq h ?_ ?_<;>intro h
 ·refine aq 1 ?_
  refine aq 3 ?_
  refine dK [0,0,3,7,0,0,48,112,255,511] rfl (by decide +kernel) ?_
  refine dk 2 [18,17] [I x3,.isl false (a_1.map ap)] ?_
  obtain⟨e4,he4,h⟩:=bS h
  refine dq [] [] (.iptr (au e4) 0) rfl (ak rfl rfl rfl (ba rfl rfl rfl rfl he4)) ?_
  refine dq [] [] (au e4) rfl (aN rfl rfl) ?_
  refine dk 2 [22,21] [I x3,.isl false (b_2.map ap)] ?_
  obtain⟨e5,he5,h⟩:=bS h
  refine dq [] [] (.iptr (au e5) 0) rfl (ak rfl rfl rfl (ba rfl rfl rfl rfl he5)) ?_
  refine dq [] [] (au e5) rfl (aN rfl rfl) ?_
  obtain⟨r6,hr6,h⟩:=bS h
  refine dq [] [] (B r6) rfl (cP (RN hr6)) ?_ (dF rfl rfl rfl rfl (bd (bM rfl) (bd (bM rfl) dx)) (RN hr6) (.inr rfl) rfl)
  refine dk 1 [26] [B (!r6)] ?_
  refine de 225 rfl rfl ?_
  refine sq h ?_ ?_<;>intro h
  ·refine cq 4 [4] [B false] 241 ?_
   exact cr rfl (hr _ (aj h) _ (qp [B false]))
  ·refine aq 1 ?_
   refine cq 6 [5] [I (ai (x3+1))] 273 ?_
   refine cZ ?_
   exact rf [0,1,5] [] (ih _ _ h hr hn :)
 ·refine aq 1 ?_
  exact rf [] [] (hn _ (aj h) :) (hk:=hK)
theorem Ws (a_1:List Clause)(b_2:List Clause)(r:Bool)(h:A6 a_1 b_2=some r):br Lc Tryz.f50 [false,false] 0 (DB (a_1,b_2)) (DC r):=by
 show Run _ _ (RP (a_1,b_2) r) [.code RQ] _
 refine rI 27 [(0,.isl false (a_1.map ap)),(1,.isl false (b_2.map ap))] [] 1 ?_
 unfold A6 at h
 refine cq 8 [6] [.isl false (a_1.map ap)] 33 ?_
 refine oq 49 (I (len a_1)) rfl (bu rfl rfl rfl (bG rfl)) ?_
 refine cq 1 [8] [.isl false (b_2.map ap)] 65 ?_
 refine oq 81 (I (len b_2)) rfl (bu rfl rfl rfl (bG rfl)) ?_
 refine cq 2 [10] [B ((len a_1) != (len b_2))] 97 ?_
 refine sq h ?_ ?_<;>intro h
 ·refine cq 4 [4] [B false] 113 ?_
  obtain rfl:=sI h
  exact rP [B false]
 ·refine aq 1 ?_
  refine cq 6 [5] [I (0)] 113 ?_
  obtain⟨y7,hy7,hy71,hy72⟩:=bJ h
  refine bN rfl ?_
  refine rf [0,1,5] [] (NH a_1 b_2 rfl 0 _ hy7 (fun r' e st hq=>by rw[hy71 r' e] at hq;exact hq) fun u7 hu=>?_)
  replace h:=hy72 u7 hu
  refine cq 4 [4] [B true] 17 ?_
  obtain rfl:=sI h
  exact rP [B true]
theorem RR {G:bZ}:bV G 50 A7:=gT 2 0 (aO RO bz) cd Tryz.func50 (fun a r h=>Ws a.1 a.2 r h)
def DF:(Contract×Contract)→List V:=cA aM (oA aM)
def DG (r:Bool):V×List V:=(B r,[])
noncomputable def Bc :=bi [false,false] DF DG fun x=>Bb x.1 x.2
theorem RZ {a_1:Contract}{b_2:Contract}{r}(h:Bb a_1 b_2=some r):Bc.F (DF (a_1,b_2))=some (DG r):=aH (aJ aU (aI aU)) h
noncomputable def abM :=aF Tryz.f17
noncomputable def RY :=cb [(49,uX),(50,A7)]
def abL (x:Contract×Contract)(r:Bool):St→Prop:=QF RY Tryz.f17 [false,false] (DF x) (DG r)
theorem Ww (a_1:Contract)(b_2:Contract)(r:Bool)(h:Bb a_1 b_2=some r):br RY Tryz.f17 [false,false] 0 (DF (a_1,b_2)) (DG r):=by
 show Run _ _ (abL (a_1,b_2) r) [.code abM] _
 refine rI 17 [(0,aa a_1),(1,aa b_2)] [] 1 ?_
 unfold Bb at h
 refine ck 13 [2,3,6,8] [] [1,17] [] [.hp 1 0 [] 2 0 0,.hp 17 0 [] 2 0 0,.isl false (a_1.Parties.map str),.isl false (b_2.Parties.map str)] [some ⟨0,2,[aa a_1]⟩,some ⟨0,2,[aa b_2]⟩] 113 (by kernel_rfl) ?_
 obtain⟨r3,hr3,h⟩:=bS h
 refine oq 129 (B r3) rfl (cP (Sf hr3)) ?_
 refine cq 2 [10] [B (!r3)] 145 ?_
 refine sq h ?_ ?_<;>intro h
 ·refine cq 4 [4] [B false] 161 ?_
  obtain rfl:=sI h
  exact rP [B false]
 ·refine aq 1 ?_
  refine cq 7 [12,14] [.isl false (a_1.Clauses.map ap),.isl false (b_2.Clauses.map ap)] 209 ?_
  obtain⟨r4,hr4,h⟩:=bS h
  refine oq 225 (B r4) rfl (cP (abG hr4)) ?_
  refine cq 2 [16] [B (!r4)] 241 ?_
  refine sq h ?_ ?_<;>intro h
  ·refine cq 4 [4] [B false] 257 ?_
   obtain rfl:=sI h
   exact rP [B false]
  ·refine aq 1 ?_
   refine cq 4 [4] [B true] 257 ?_
   obtain rfl:=sI h
   exact rP [B true]
theorem R1 {G:bZ}:bV G 17 Bc:=gT 2 0 (aO I2 (aO RR bz)) cd Tryz.func17 (fun a r h=>Ww a.1 a.2 r h)
def DH:(Duty×Duty)→List V:=cA ah (oA ah)
def DI (r:Bool):V×List V:=(B r,[])
noncomputable def Bd :=bi [false,false] DH DI fun x=>wA x.1 x.2
theorem R4 {a_1:Duty}{b_2:Duty}{r}(h:wA a_1 b_2=some r):Bd.F (DH (a_1,b_2))=some (DI r):=aH (aJ ey (aI ey)) h
noncomputable def abO :=aF Tryz.f113
noncomputable def R3 :=cb []
def abN (x:Duty×Duty)(r:Bool):St→Prop:=QF R3 Tryz.f113 [false,false] (DH x) (DI r)
theorem Wx (a_1:Duty)(b_2:Duty)(r:Bool)(h:wA a_1 b_2=some r):br R3 Tryz.f113 [false,false] 0 (DH (a_1,b_2)) (DI r):=by
 show Run _ _ (abN (a_1,b_2) r) [.code abO] _
 refine rI 25 [(0,ah a_1),(1,ah b_2)] [] 1 ?_
 unfold wA at h
 refine ck 15 [2,3,9] [] [1,17] [] [.hp 1 0 [] 4 0 0,.hp 17 0 [] 4 0 0,B (a_1.Clause != b_2.Clause)] [some ⟨0,4,[ah a_1]⟩,some ⟨0,4,[ah b_2]⟩] 129 (by kernel_rfl) ?_
 refine sq h ?_ ?_<;>intro h
 ·refine cq 4 [4] [B false] 145 ?_
  obtain rfl:=sI h
  exact rP [B false]
 ·refine aq 1 ?_
  refine cq 9 [14] [B (a_1.Since != b_2.Since)] 209 ?_
  refine sq h ?_ ?_<;>intro h
  ·refine cq 4 [4] [B false] 225 ?_
   obtain rfl:=sI h
   exact rP [B false]
  ·refine aq 1 ?_
   refine cq 9 [19] [B (a_1.Due != b_2.Due)] 289 ?_
   refine sq h ?_ ?_<;>intro h
   ·refine cq 4 [4] [B false] 305 ?_
    obtain rfl:=sI h
    exact rP [B false]
   ·refine aq 1 ?_
    refine cq 9 [24] [B (a_1.Status != b_2.Status)] 369 ?_
    refine sq h ?_ ?_<;>intro h
    ·refine cq 4 [4] [B false] 385 ?_
     obtain rfl:=sI h
     exact rP [B false]
    ·refine aq 1 ?_
     refine cq 4 [4] [B true] 385 ?_
     obtain rfl:=sI h
     exact rP [B true]
theorem R5 {G:bZ}:bV G 113 Bd:=gT 2 0 bz cd Tryz.func113 (fun a r h=>Wx a.1 a.2 r h)
def DJ:((List Duty)×(List Duty))→List V:=cA (fG ah) (oA (fG ah))
def DK (r:Bool):V×List V:=(B r,[])
noncomputable def Bf :=bi [false,false] DJ DK fun x=>Be x.1 x.2
theorem abP {a_1:List Duty}{b_2:List Duty}{r}(h:Be a_1 b_2=some r):Bf.F (DJ (a_1,b_2))=some (DK r):=aH (aJ (bW ey) (aI (bW ey))) h
noncomputable def R7 :=aF Tryz.f62
noncomputable def Lf :=cb [(113,Bd)]
def R6 (x:(List Duty)×(List Duty))(r:Bool):St→Prop:=QF Lf Tryz.f62 [false,false] (DJ x) (DK r)
theorem NJ (a_1:List Duty)(b_2:List Duty):ch Lf 0 (R6 (a_1,b_2)) (cL (cL (cR (cL (cR (cR R7)))))) 0 (tt a_1 b_2) (fun u=>(sT 27 [] [] 1)) fun x3=>(sT 27 [(0,.isl false (a_1.map ah)),(1,.isl false (b_2.map ah)),(5,I x3)] [] 1):=eg (ze a_1 b_2) fun {Q K} hK self ih x3 y h hr hn=>by
 unfold no at h
 refine cq 5 [11,12] [I x3,.isl false (a_1.map ah)] 33 ?_
 refine oq 49 (I (len a_1)) rfl (bu rfl rfl rfl (bG rfl)) ?_
 refine cq 2 [14] [B (decide (x3<(len a_1)))] 65 ?_
 refine sq h ?_ ?_<;>intro h
 ·refine aq 1 ?_
  refine aq 3 ?_
  refine dK [0,0,3,7,0,0,48,112,255,511] rfl (by decide +kernel) ?_
  refine dk 2 [18,17] [I x3,.isl false (a_1.map ah)] ?_
  obtain⟨e4,he4,h⟩:=bS h
  refine dq [] [] (.iptr (ah e4) 0) rfl (ak rfl rfl rfl (ba rfl rfl rfl rfl he4)) ?_
  refine dq [] [] (ah e4) rfl (aN rfl rfl) ?_
  refine dk 2 [22,21] [I x3,.isl false (b_2.map ah)] ?_
  obtain⟨e5,he5,h⟩:=bS h
  refine dq [] [] (.iptr (ah e5) 0) rfl (ak rfl rfl rfl (ba rfl rfl rfl rfl he5)) ?_
  refine dq [] [] (ah e5) rfl (aN rfl rfl) ?_
  obtain⟨r6,hr6,h⟩:=bS h
  refine dq [] [] (B r6) rfl (cP (R4 hr6)) ?_ (dF rfl rfl rfl rfl (bd (bM rfl) (bd (bM rfl) dx)) (R4 hr6) (.inr rfl) rfl)
  refine dk 1 [26] [B (!r6)] ?_
  refine de 225 rfl rfl ?_
  refine sq h ?_ ?_<;>intro h
  ·refine cq 4 [4] [B false] 241 ?_
   exact cr rfl (hr _ (aj h) _ (qp [B false]))
  ·refine aq 1 ?_
   refine cq 6 [5] [I (ai (x3+1))] 273 ?_
   refine cZ ?_
   exact rf [0,1,5] [] (ih _ _ h hr hn :)
 ·refine aq 1 ?_
  exact rf [] [] (hn _ (aj h) :) (hk:=hK)
theorem Wy (a_1:List Duty)(b_2:List Duty)(r:Bool)(h:Be a_1 b_2=some r):br Lf Tryz.f62 [false,false] 0 (DJ (a_1,b_2)) (DK r):=by
 show Run _ _ (R6 (a_1,b_2) r) [.code R7] _
 refine rI 27 [(0,.isl false (a_1.map ah)),(1,.isl false (b_2.map ah))] [] 1 ?_
 unfold Be at h
 refine cq 8 [6] [.isl false (a_1.map ah)] 33 ?_
 refine oq 49 (I (len a_1)) rfl (bu rfl rfl rfl (bG rfl)) ?_
 refine cq 1 [8] [.isl false (b_2.map ah)] 65 ?_
 refine oq 81 (I (len b_2)) rfl (bu rfl rfl rfl (bG rfl)) ?_
 refine cq 2 [10] [B ((len a_1) != (len b_2))] 97 ?_
 refine sq h ?_ ?_<;>intro h
 ·refine cq 4 [4] [B false] 113 ?_
  obtain rfl:=sI h
  exact rP [B false]
 ·refine aq 1 ?_
  refine cq 6 [5] [I (0)] 113 ?_
  obtain⟨y7,hy7,hy71,hy72⟩:=bJ h
  refine bN rfl ?_
  refine rf [0,1,5] [] (NJ a_1 b_2 rfl 0 _ hy7 (fun r' e st hq=>by rw[hy71 r' e] at hq;exact hq) fun u7 hu=>?_)
  replace h:=hy72 u7 hu
  refine cq 4 [4] [B true] 17 ?_
  obtain rfl:=sI h
  exact rP [B true]
theorem R8 {G:bZ}:bV G 62 Bf:=gT 2 0 (aO R5 bz) cd Tryz.func62 (fun a r h=>Wy a.1 a.2 r h)
def DL:((List Int)×(List Int))→List V:=cA (fG I) (oA (fG I))
def DM (r:Bool):V×List V:=(B r,[])
noncomputable def Bh :=bi [false,false] DL DM fun x=>Bg x.1 x.2
theorem abQ {a_1:List Int}{b_2:List Int}{r}(h:Bg a_1 b_2=some r):Bh.F (DL (a_1,b_2))=some (DM r):=aH (aJ (bW bo) (aI (bW bo))) h
noncomputable def Sa :=aF Tryz.f16
noncomputable def Lg :=cb []
def R9 (x:(List Int)×(List Int))(r:Bool):St→Prop:=QF Lg Tryz.f16 [false,false] (DL x) (DM r)
theorem NK (a_1:List Int)(b_2:List Int):ch Lg 0 (R9 (a_1,b_2)) (cL (cL (cR (cL (cR (cR Sa)))))) 0 (tu a_1 b_2) (fun u=>(sT 26 [] [] 1)) fun x3=>(sT 26 [(0,.isl false (a_1.map I)),(1,.isl false (b_2.map I)),(5,I x3)] [] 1):=eg (zf a_1 b_2) fun {Q K} hK self ih x3 y h hr hn=>by
 unfold np at h
 refine cq 5 [11,12] [I x3,.isl false (a_1.map I)] 33 ?_
 refine oq 49 (I (len a_1)) rfl (bu rfl rfl rfl (bG rfl)) ?_
 refine cq 2 [14] [B (decide (x3<(len a_1)))] 65 ?_
 refine sq h ?_ ?_<;>intro h
 ·refine aq 1 ?_
  refine aq 3 ?_
  refine dK [0,0,3,7,0,0,48,112,255] rfl (by decide +kernel) ?_
  refine dk 2 [18,17] [I x3,.isl false (a_1.map I)] ?_
  obtain⟨e4,he4,h⟩:=bS h
  refine dq [] [] (.iptr (I e4) 0) rfl (ak rfl rfl rfl (ba rfl rfl rfl rfl he4)) ?_
  refine dq [] [] (I e4) rfl (aN rfl rfl) ?_
  refine dk 2 [22,21] [I x3,.isl false (b_2.map I)] ?_
  obtain⟨e5,he5,h⟩:=bS h
  refine dq [] [] (.iptr (I e5) 0) rfl (ak rfl rfl rfl (ba rfl rfl rfl rfl he5)) ?_
  refine dq [] [] (I e5) rfl (aN rfl rfl) ?_
  refine dk 1 [25] [B (e4 != e5)] ?_
  refine de 209 rfl rfl ?_
  refine sq h ?_ ?_<;>intro h
  ·refine cq 4 [4] [B false] 225 ?_
   exact cr rfl (hr _ (aj h) _ (qp [B false]))
  ·refine aq 1 ?_
   refine cq 6 [5] [I (ai (x3+1))] 257 ?_
   refine cZ ?_
   exact rf [0,1,5] [] (ih _ _ h hr hn :)
 ·refine aq 1 ?_
  exact rf [] [] (hn _ (aj h) :) (hk:=hK)
theorem Wz (a_1:List Int)(b_2:List Int)(r:Bool)(h:Bg a_1 b_2=some r):br Lg Tryz.f16 [false,false] 0 (DL (a_1,b_2)) (DM r):=by
 show Run _ _ (R9 (a_1,b_2) r) [.code Sa] _
 refine rI 26 [(0,.isl false (a_1.map I)),(1,.isl false (b_2.map I))] [] 1 ?_
 unfold Bg at h
 refine cq 8 [6] [.isl false (a_1.map I)] 33 ?_
 refine oq 49 (I (len a_1)) rfl (bu rfl rfl rfl (bG rfl)) ?_
 refine cq 1 [8] [.isl false (b_2.map I)] 65 ?_
 refine oq 81 (I (len b_2)) rfl (bu rfl rfl rfl (bG rfl)) ?_
 refine cq 2 [10] [B ((len a_1) != (len b_2))] 97 ?_
 refine sq h ?_ ?_<;>intro h
 ·refine cq 4 [4] [B false] 113 ?_
  obtain rfl:=sI h
  exact rP [B false]
 ·refine aq 1 ?_
  refine cq 6 [5] [I (0)] 113 ?_
  obtain⟨y6,hy6,hy61,hy62⟩:=bJ h
  refine bN rfl ?_
  refine rf [0,1,5] [] (NK a_1 b_2 rfl 0 _ hy6 (fun r' e st hq=>by rw[hy61 r' e] at hq;exact hq) fun u6 hu=>?_)
  replace h:=hy62 u6 hu
  refine cq 4 [4] [B true] 17 ?_
  obtain rfl:=sI h
  exact rP [B true]
theorem Sb {G:bZ}:bV G 16 Bh:=gT 2 0 bz cd Tryz.func16 (fun a r h=>Wz a.1 a.2 r h)
def DN:(State×State)→List V:=cA bH (oA bH)
def DP (r:Bool):V×List V:=(B r,[])
noncomputable def Bj :=bi [false,false] DN DP fun x=>Bi x.1 x.2
theorem Sd {a_1:State}{b_2:State}{r}(h:Bi a_1 b_2=some r):Bj.F (DN (a_1,b_2))=some (DP r):=aH (aJ bP (aI bP)) h
noncomputable def abS :=aF Tryz.f25
noncomputable def Sc :=cb [(49,uX),(62,Bf),(16,Bh)]
def abR (x:State×State)(r:Bool):St→Prop:=QF Sc Tryz.f25 [false,false] (DN x) (DP r)
theorem WA (a_1:State)(b_2:State)(r:Bool)(h:Bi a_1 b_2=some r):br Sc Tryz.f25 [false,false] 0 (DN (a_1,b_2)) (DP r):=by
 show Run _ _ (abR (a_1,b_2) r) [.code abS] _
 refine rI 33 [(0,ae a_1),(1,ae b_2)] [] 1 ?_
 unfold Bi at h
 refine ck 15 [2,3,9] [] [1,17] [] [.hp 1 0 [] 5 0 0,.hp 17 0 [] 5 0 0,B (a_1.Day != b_2.Day)] [some ⟨0,5,[ae a_1]⟩,some ⟨0,5,[ae b_2]⟩] 129 (by kernel_rfl) ?_
 refine sq h ?_ ?_<;>intro h
 ·refine cq 4 [4] [B false] 145 ?_
  obtain rfl:=sI h
  exact rP [B false]
 ·refine aq 1 ?_
  refine cq 7 [11,13] [.isl false (a_1.Facts.map str),.isl false (b_2.Facts.map str)] 193 ?_
  obtain⟨r3,hr3,h⟩:=bS h
  refine oq 209 (B r3) rfl (cP (Sf hr3)) ?_
  refine cq 2 [15] [B (!r3)] 225 ?_
  refine sq h ?_ ?_<;>intro h
  ·refine cq 4 [4] [B false] 241 ?_
   obtain rfl:=sI h
   exact rP [B false]
  ·refine aq 1 ?_
   refine cq 7 [17,19] [.isl false (a_1.Duties.map ah),.isl false (b_2.Duties.map ah)] 289 ?_
   obtain⟨r4,hr4,h⟩:=bS h
   refine oq 305 (B r4) rfl (cP (abP hr4)) ?_
   refine cq 2 [21] [B (!r4)] 321 ?_
   refine sq h ?_ ?_<;>intro h
   ·refine cq 4 [4] [B false] 337 ?_
    obtain rfl:=sI h
    exact rP [B false]
   ·refine aq 1 ?_
    refine cq 7 [23,25] [.isl false (a_1.Balances.map I),.isl false (b_2.Balances.map I)] 385 ?_
    obtain⟨r5,hr5,h⟩:=bS h
    refine oq 401 (B r5) rfl (cP (abQ hr5)) ?_
    refine cq 2 [27] [B (!r5)] 417 ?_
    refine sq h ?_ ?_<;>intro h
    ·refine cq 4 [4] [B false] 433 ?_
     obtain rfl:=sI h
     exact rP [B false]
    ·refine aq 1 ?_
     refine cq 9 [32] [B (!(a_1.Over==b_2.Over))] 497 ?_
     refine sq h ?_ ?_<;>intro h
     ·refine cq 4 [4] [B false] 513 ?_
      obtain rfl:=sI h
      exact rP [B false]
     ·refine aq 1 ?_
      refine cq 4 [4] [B true] 513 ?_
      obtain rfl:=sI h
      exact rP [B true]
theorem Se {G:bZ}:bV G 25 Bj:=gT 2 0 (aO I2 (aO R8 (aO Sb bz))) cd Tryz.func25 (fun a r h=>WA a.1 a.2 r h)
def gm:(Contract×State×Int×Int)→List V:=cA aM (cA bH (cA I (oA I)))
def gn (r:Bool):V×List V:=(B r,[])
noncomputable def ir :=bi [false,false,false,false] gm gn fun x=>fp x.1 x.2.1 x.2.2.1 x.2.2.2
theorem rL {kq:Contract}{kr:State}{iC:Int}{mm:Int}{r}(h:fp kq kr iC mm=some r):ir.F (gm (kq,kr,iC,mm))=some (gn r):=aH (aJ aU (aJ bP (aJ bo (aI bo)))) h
noncomputable def gp :=aF Tryz.f6
noncomputable def iV :=cb [(12,Bq),(21,Bw),(14,BE),(23,BL),(28,Ca),(29,HS),(17,Bc),(25,Bj)]
def lV (x:Contract×State×Int×Int)(r:Bool):St→Prop:=QF iV Tryz.f6 [false,false,false,false] (gm x) (gn r)
theorem qu (kq:Contract)(kr:State)(iC:Int)(mm:Int)(r:Bool)(h:fp kq kr iC mm=some r):br iV Tryz.f6 [false,false,false,false] 0 (gm (kq,kr,iC,mm)) (gn r):=by
 show Run _ _ (lV (kq,kr,iC,mm) r) [.code gp] _
 refine rI 66 [(0,aM kq),(1,bH kr),(2,I iC),(3,I mm)] [] 1 ?_
 unfold fp at h
 refine ck 14 [4,5,16,17] [] [1,17] [] [.hp 1 0 [] 2 0 0,.hp 17 0 [] 5 0 0,aM kq,I (1048576)] [some ⟨0,2,[aM kq]⟩,some ⟨0,5,[bH kr]⟩] 97 (by kernel_rfl) ?_
 obtain⟨r5,hr5,h⟩:=bS h
 refine oq 113 (I r5) rfl (cP (ab1 hr5)) ?_
 refine cq 8 [9,20] [I r5,B (decide (r5<0))] 161 ?_
 refine sq h ?_ ?_<;>intro h
 ·refine cq 4 [8] [B true] 177 ?_
  obtain rfl:=sI h
  exact rP [B true]
 ·refine aq 1 ?_
  refine cq 4 [21,22] [bH kr,I r5] 193 ?_
  obtain⟨r6,hr6,h⟩:=bS h
  refine oq 209 (I r6) rfl (cP (acb hr6)) ?_
  refine ck 8 [25] [9] [] [] [B (decide (r6<0))] [] 257 (by kernel_rfl) ?_
  refine sq h ?_ ?_<;>intro h
  ·refine cq 4 [8] [B true] 273 ?_
   obtain rfl:=sI h
   exact rP [B true]
  ·refine aq 1 ?_
   refine aq 1 ?_
   refine dK [0,1,0,7,0,0,63,127,255,255,511,2047] rfl (by decide +kernel) ?_
   refine dq [1] [] (aM kq) rfl (aN rfl rfl) ?_
   obtain⟨r7,hr7,h⟩:=bS h
   refine dq [] [] (.agg [.hs 273 0 [] 1 0 (r7.Parties.map str).length,.hs 274 0 [] 12 0 (r7.Clauses.map bb).length]) rfl (cP (wM hr7)) ?_ (dF rfl rfl rfl rfl (bd (bM rfl) dx) (wM hr7) (.inr rfl) rfl)
   refine dq [17] [] (bH kr) rfl (aN rfl rfl) ?_
   obtain⟨r8,hr8,h⟩:=bS h
   refine dq [] [] (.agg [I r8.Day,.hs 305 0 [] 1 0 (r8.Facts.map str).length,.hs 306 0 [] 4 0 (r8.Duties.map ah).length,.hs 307 0 [] 1 0 (r8.Balances.map I).length,B r8.Over]) rfl (cP (wO hr8)) ?_ (dF rfl rfl rfl rfl (bd (bM rfl) dx) (wO hr8) (.inr rfl) rfl)
   refine dk 2 [32,31] [I mm,I iC] ?_
   obtain⟨r9,hr9,h⟩:=bS h
   refine dq [273,274,305,306,307] [] (.tup [I r9.1,B r9.2]) rfl (b8 rfl rfl (cu rfl rfl rfl (bd (rT (dS (eP (f:=str) (g:=str) (xs:=r7.Parties) rfl rfl (co ga)) (dS (eP (f:=bb) (g:=ap) (xs:=r7.Clauses) rfl rfl (co gl)) gL))) (bd (rT (dS (fS rfl) (dS (eP (f:=str) (g:=str) (xs:=r8.Facts) rfl rfl (co ga)) (dS (eP (f:=ah) (g:=ah) (xs:=r8.Duties) rfl rfl (co iO)) (dS (eP (f:=I) (g:=I) (xs:=r8.Balances) rfl rfl (co ml)) (dS (fS rfl) gL)))))) (bd (bM rfl) (bd (bM rfl) dx)))) (TP hr9) (.inl rfl) ec rfl rfl rfl)) ?_ (dF rfl rfl rfl rfl (bd (rT (dS (eP (f:=str) (g:=str) (xs:=r7.Parties) rfl rfl (co ga)) (dS (eP (f:=bb) (g:=ap) (xs:=r7.Clauses) rfl rfl (co gl)) gL))) (bd (rT (dS (fS rfl) (dS (eP (f:=str) (g:=str) (xs:=r8.Facts) rfl rfl (co ga)) (dS (eP (f:=ah) (g:=ah) (xs:=r8.Duties) rfl rfl (co iO)) (dS (eP (f:=I) (g:=I) (xs:=r8.Balances) rfl rfl (co ml)) (dS (fS rfl) gL)))))) (bd (bM rfl) (bd (bM rfl) dx)))) (TP hr9) (.inl rfl) rfl)
   refine dk 5 [11,10,35,34,26] [B r9.2,I r9.1,B r9.2,I r9.1,.tup [I r9.1,B r9.2]] ?_
   refine de 449 rfl rfl ?_
   refine cq 3 [36] [aM kq] 465 ?_
   obtain⟨r10,hr10,h⟩:=bS h
   refine oq 481 (.agg [.hs 465 0 [] 1 0 (r10.Parties.map str).length,.hs 466 0 [] 12 0 (r10.Clauses.map bb).length]) rfl (cP (wM hr10)) ?_
   refine ck 1 [12] [] [481] [] [.hp 481 0 [] 2 0 0] [some ⟨0,2,[.agg [.isl true [],.isl true []]]⟩] 497 (by kernel_rfl) ?_
   refine fP 481 [.agg [.usl 1 (([]).map str),.usl 12 (([]).map bb)]] rfl rfl (aP (hY (aP (.nil _) (aP (.nil _) eT))) eT) ?_
   refine o0 513 rfl rfl (fW rfl rfl (fh (path:=[]) (pl:=false) (e':=.agg [.usl 1 (r10.Parties.map str),.usl 12 (r10.Clauses.map bb)]) (es2':=[.agg [.usl 1 (r10.Parties.map str),.usl 12 (r10.Clauses.map bb)]]) rfl (po (cH (dZ rfl rfl) (cH (dZ rfl rfl) pq))) rfl rfl rfl aX rfl rfl rfl rfl rfl eG 2 rfl)) ?_
   refine cq 4 [38] [bH kr] 529 ?_
   obtain⟨r11,hr11,h⟩:=bS h
   refine oq 545 (.agg [I r11.Day,.hs 529 0 [] 1 0 (r11.Facts.map str).length,.hs 530 0 [] 4 0 (r11.Duties.map ah).length,.hs 531 0 [] 1 0 (r11.Balances.map I).length,B r11.Over]) rfl (cP (wO hr11)) ?_
   refine ck 1 [13] [] [545] [] [.hp 545 0 [] 5 0 0] [some ⟨0,5,[.agg [I (0),.isl true [],.isl true [],.isl true [],B false]]⟩] 561 (by kernel_rfl) ?_
   refine fP 545 [.agg [I (0),.usl 1 (([]).map str),.usl 4 (([]).map ah),.usl 1 (([]).map I),B false]] rfl rfl (aP (hY (aP (.refl _) (aP (.nil _) (aP (.nil _) (aP (.nil _) (aP (.refl _) eT)))))) eT) ?_
   refine o0 577 rfl rfl (fW rfl rfl (fh (path:=[]) (pl:=false) (e':=.agg [I r11.Day,.usl 1 (r11.Facts.map str),.usl 4 (r11.Duties.map ah),.usl 1 (r11.Balances.map I),B r11.Over]) (es2':=[.agg [I r11.Day,.usl 1 (r11.Facts.map str),.usl 4 (r11.Duties.map ah),.usl 1 (r11.Balances.map I),B r11.Over]]) rfl (po (cH (dm rfl) (cH (dZ rfl rfl) (cH (dZ rfl rfl) (cH (dZ rfl rfl) (cH (dm rfl) pq)))))) rfl rfl rfl aX rfl rfl rfl rfl rfl eG 2 rfl)) ?_
   refine cq 7 [41,42,43,44] [.agg [.hs 481 2 [(0,0)] 1 0 (r10.Parties.map str).length,.hs 481 2 [(0,1)] 12 0 (r10.Clauses.map bb).length],.agg [I r11.Day,.hs 545 2 [(0,1)] 1 0 (r11.Facts.map str).length,.hs 545 2 [(0,2)] 4 0 (r11.Duties.map ah).length,.hs 545 2 [(0,3)] 1 0 (r11.Balances.map I).length,B r11.Over],I iC,I mm] 641 ?_
   obtain⟨r12,hr12,h⟩:=bS h
   refine oq 657 (.tup [I r12.1,B r12.2]) rfl (b8 rfl rfl (cu rfl rfl rfl (bd (rT (dS (kF (path:=[(0,0)]) rfl rfl (gw rfl rfl aX) rfl (co (f:=str) ga)) (dS (kF (path:=[(0,1)]) rfl rfl (gw rfl rfl aX) rfl (co (f:=bb) gl)) gL))) (bd (rT (dS (fS rfl) (dS (kF (path:=[(0,1)]) rfl rfl (gw rfl rfl aX) rfl (co (f:=str) ga)) (dS (kF (path:=[(0,2)]) rfl rfl (gw rfl rfl aX) rfl (co (f:=ah) iO)) (dS (kF (path:=[(0,3)]) rfl rfl (gw rfl rfl aX) rfl (co (f:=I) ml)) (dS (fS rfl) gL)))))) (bd (bM rfl) (bd (bM rfl) dx)))) (ad6 hr12) (.inl rfl) ec rfl rfl rfl)) ?_
   refine cq 13 [15,51] [B r12.2,B (r12.1 != r9.1)] 801 ?_
   obtain⟨u13,hu13,h⟩:=lJ h
   have j13:Run iV 0 (lV (kq,kr,iC,mm) r) (.code (cR (cL (cR (cR (cR (cR (cR (cR (cR (cR (cR (cR gp))))))))))))::.code (cR (cR (cR (cR (cR (cR (cR (cR (cR (cR (cR gp)))))))))))::[]) (sT 66 [(4,.hp 1 0 [] 2 0 0),(5,.hp 2 0 [] 5 0 0),(12,.hp 3 0 [] 2 0 0),(13,.hp 4 0 [] 5 0 0),(55,B u13)] [⟨0,2,[aM kq]⟩,⟨0,5,[bH kr]⟩,⟨0,2,[.agg [.usl 1 (r10.Parties.map str),.usl 12 (r10.Clauses.map bb)]]⟩,⟨0,5,[.agg [I r11.Day,.usl 1 (r11.Facts.map str),.usl 4 (r11.Duties.map ah),.usl 1 (r11.Balances.map I),B r11.Over]]⟩] 5):=by
    refine sq h ?_ ?_<;>intro h
    ·refine cq 4 [8] [B false] 21 ?_
     obtain rfl:=sI h
     exact rP [B false]
    ·refine aq 1 ?_
     refine aq 2 ?_
     refine dK [0,0,2,7,15] rfl (by decide +kernel) ?_
     refine dq [3] [] (.agg [.hs 3 0 [(0,0)] 1 0 (r10.Parties.map str).length,.hs 3 0 [(0,1)] 12 0 (r10.Clauses.map bb).length]) rfl (aN rfl rfl) ?_
     refine dq [1] [] (aM kq) rfl (aN rfl rfl) ?_
     obtain⟨r14,hr14,h⟩:=bS h
     refine dq [] [] (.agg [.hs 37 0 [] 1 0 (r14.Parties.map str).length,.hs 38 0 [] 12 0 (r14.Clauses.map bb).length]) rfl (cP (wM hr14)) ?_ (dF rfl rfl rfl rfl (bd (bM rfl) dx) (wM hr14) (.inr rfl) rfl)
     obtain⟨r15,hr15,h⟩:=bS h
     refine dq [3,3,37,38] [] (B r15) rfl (b8 rfl rfl (cu rfl rfl rfl (bd (rT (dS (kF (path:=[(0,0)]) rfl rfl (gw rfl rfl aX) rfl (co (f:=str) ga)) (dS (kF (path:=[(0,1)]) rfl rfl (gw rfl rfl aX) rfl (co (f:=bb) gl)) gL))) (bd (rT (dS (eP (f:=str) (g:=str) (xs:=r14.Parties) rfl rfl (co ga)) (dS (eP (f:=bb) (g:=ap) (xs:=r14.Clauses) rfl rfl (co gl)) gL))) dx)) (RZ hr15) (.inl rfl) ec rfl rfl rfl)) ?_ (dF rfl rfl rfl rfl (bd (rT (dS (kF (path:=[(0,0)]) rfl rfl (gw rfl rfl aX) rfl (co (f:=str) ga)) (dS (kF (path:=[(0,1)]) rfl rfl (gw rfl rfl aX) rfl (co (f:=bb) gl)) gL))) (bd (rT (dS (eP (f:=str) (g:=str) (xs:=r14.Parties) rfl rfl (co ga)) (dS (eP (f:=bb) (g:=ap) (xs:=r14.Clauses) rfl rfl (co gl)) gL))) dx)) (RZ hr15) (.inl rfl) rfl)
     refine dk 1 [60] [B (!r15)] ?_
     refine de 85 rfl rfl ?_
     refine sq h ?_ ?_<;>intro h
     ·refine cq 4 [8] [B false] 101 ?_
      obtain rfl:=sI h
      exact rP [B false]
     ·refine aq 1 ?_
      refine aq 2 ?_
      refine dK [0,0,2,7,15] rfl (by decide +kernel) ?_
      refine dq [4] [] (.agg [I r11.Day,.hs 4 0 [(0,1)] 1 0 (r11.Facts.map str).length,.hs 4 0 [(0,2)] 4 0 (r11.Duties.map ah).length,.hs 4 0 [(0,3)] 1 0 (r11.Balances.map I).length,B r11.Over]) rfl (aN rfl rfl) ?_
      refine dq [2] [] (bH kr) rfl (aN rfl rfl) ?_
      obtain⟨r16,hr16,h⟩:=bS h
      refine dq [] [] (.agg [I r16.Day,.hs 117 0 [] 1 0 (r16.Facts.map str).length,.hs 118 0 [] 4 0 (r16.Duties.map ah).length,.hs 119 0 [] 1 0 (r16.Balances.map I).length,B r16.Over]) rfl (cP (wO hr16)) ?_ (dF rfl rfl rfl rfl (bd (bM rfl) dx) (wO hr16) (.inr rfl) rfl)
      obtain⟨r17,hr17,h⟩:=bS h
      refine dq [4,4,4,117,118,119] [] (B r17) rfl (b8 rfl rfl (cu rfl rfl rfl (bd (rT (dS (fS rfl) (dS (kF (path:=[(0,1)]) rfl rfl (gw rfl rfl aX) rfl (co (f:=str) ga)) (dS (kF (path:=[(0,2)]) rfl rfl (gw rfl rfl aX) rfl (co (f:=ah) iO)) (dS (kF (path:=[(0,3)]) rfl rfl (gw rfl rfl aX) rfl (co (f:=I) ml)) (dS (fS rfl) gL)))))) (bd (rT (dS (fS rfl) (dS (eP (f:=str) (g:=str) (xs:=r16.Facts) rfl rfl (co ga)) (dS (eP (f:=ah) (g:=ah) (xs:=r16.Duties) rfl rfl (co iO)) (dS (eP (f:=I) (g:=I) (xs:=r16.Balances) rfl rfl (co ml)) (dS (fS rfl) gL)))))) dx)) (Sd hr17) (.inl rfl) ec rfl rfl rfl)) ?_ (dF rfl rfl rfl rfl (bd (rT (dS (fS rfl) (dS (kF (path:=[(0,1)]) rfl rfl (gw rfl rfl aX) rfl (co (f:=str) ga)) (dS (kF (path:=[(0,2)]) rfl rfl (gw rfl rfl aX) rfl (co (f:=ah) iO)) (dS (kF (path:=[(0,3)]) rfl rfl (gw rfl rfl aX) rfl (co (f:=I) ml)) (dS (fS rfl) gL)))))) (bd (rT (dS (fS rfl) (dS (eP (f:=str) (g:=str) (xs:=r16.Facts) rfl rfl (co ga)) (dS (eP (f:=ah) (g:=ah) (xs:=r16.Duties) rfl rfl (co iO)) (dS (eP (f:=I) (g:=I) (xs:=r16.Balances) rfl rfl (co ml)) (dS (fS rfl) gL)))))) dx)) (Sd hr17) (.inl rfl) rfl)
      refine dk 1 [65] [B (!r17)] ?_
      refine de 165 rfl rfl ?_
      refine sq h ?_ ?_<;>intro h
      ·refine cq 4 [8] [B false] 181 ?_
       obtain rfl:=sI h
       exact rP [B false]
      ·refine aq 1 ?_
       refine cq 4 [8] [B true] 181 ?_
       obtain rfl:=sI h
       exact rP [B true]
   replace h:=hu13
   clear hu13
   refine sp 51 h rfl ?_ ?_<;>intro h
   ·refine cq 5 [55] [B true] 865 ?_
    subst h
    exact rf [4,5,12,13,55] [1,17,481,545] (j13 :)
   ·refine cq 5 [55] [B (!(r12.2==r9.2))] 865 ?_
    subst h
    exact rf [4,5,12,13,55] [1,17,481,545] (j13 :)
theorem qh {G:bZ}:bV G 6 ir:=gT 4 0 (aO Su (aO SB (aO SQ (aO S0 (aO TQ (aO WK (aO R1 (aO Se bz)))))))) cd Tryz.func6 (fun a r h=>qu a.1 a.2.1 a.2.2.1 a.2.2.2 r h)
end Go.Ln
