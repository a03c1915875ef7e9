/-
  The walks.
-/
import Derived.Test.YtobhcnmeflacnaaGreatDoorFnExactNextMomentRunA
set_option maxHeartbeats 4000000
set_option linter.unusedVariables false
set_option linter.unusedSimpArgs false
set_option maxRecDepth 100000
namespace Go.Ln
open Go Go.Proofs
section
theorem M8 (c_1:Contract):ci M7 0 (Vh c_1) (cL (cL (cR (cL (cR (cR Vi)))))) 0 (oP c_1) (fun u=>(sT 25 [(3,.hs 1 0 [] 1 0 (u.map str).length)] [⟨0,1,u.map str⟩] 2)) fun x2=>(sT 25 [(3,.hs 1 0 [] 1 0 (x2.2.map str).length),(8,.isl false (c_1.Clauses.map an)),(9,I (len c_1.Clauses)),(10,I x2.1)] [⟨0,1,x2.2.map str⟩] 2):=dY (Eb c_1) fun {Q K} hK self ih x2 y h hr hn=>by
 unfold lO at h
 refine cq 5 [11] [B (decide (x2.1<(len c_1.Clauses)))] 18 ?_
 refine sq h ?_ ?_<;>intro h
 ·refine aq 1 ?_
  refine aq 4 ?_
  obtain⟨e3,he3,h⟩:=bS h
  refine oq 34 (.iptr (ar e3) 0) rfl (ap rfl rfl rfl (aY rfl rfl rfl rfl he3)) ?_
  refine ck 2 [5,13] [] [50] [] [.hp 50 0 [] 12 0 0,ar e3] [some ⟨0,12,[.agg [str ([]),I (0),I (0),str ([]),I (0),I (0),I (0),str ([]),I (0),.isl true [],I (0),str ([])]]⟩] 66 (by kernel_rfl) ?_
  refine eD 50 [.agg [str ([]),I (0),I (0),str ([]),I (0),I (0),I (0),str ([]),I (0),.usl 4 (([]).map aA),I (0),str ([])]] rfl rfl (aC (fp (aC (.refl _) (aC (.refl _) (aC (.refl _) (aC (.refl _) (aC (.refl _) (aC (.refl _) (aC (.refl _) (aC (.refl _) (aC (.refl _) (aC (.nil _) (aC (.refl _) (aC (.refl _) dM))))))))))))) dM) ?_
  refine ck 2 [] [] [50] [] [] [some ⟨2,12,[ar e3]⟩] 82 (by kernel_rfl) ?_
  refine eB [0,1,0,0,8,24,60,127,255] rfl (by decide +kernel) ?_
  refine dq [50] [] (.hp 50 0 [] 12 0 6) rfl (ay rfl rfl rfl) ?_
  refine dq [50] [] (ah e3.When) rfl (bb rfl rfl) ?_
  refine dk 1 [16] [.hs 1 0 [] 1 0 (x2.2.map str).length] ?_
  refine dq [50] [] (.hp 50 0 [] 12 0 3) rfl (ay rfl rfl rfl) ?_
  refine dq [50] [] (str e3.Action) rfl (bb rfl rfl) ?_
  refine dq [] [] (.hs 162 0 [] 1 0 1) rfl (d7 rfl (kW (f:=I) (xs:=[]) (z:=str ([])) (es:=[str e3.Action]) (ws:=[str e3.Action]) rfl rfl rfl (by decide) rfl (dB rfl) rfl)) ?_
  obtain⟨a4,ha4,h⟩:=bS h
  refine dq [1,162] [1] (.hs 178 0 [] 1 0 (a4.map str).length) rfl (im rfl rfl rfl rfl rfl (lw (path:=[]) (f:=str) (xs:=x2.2) (ys:=[e3.Action]) rfl rfl (pT rfl rfl rfl) rfl rfl rfl aZ rfl (by decide) kM ha4 rfl po)) ?_ (uI rfl (tY (path:=[]) (f:=str) (xs:=[e3.Action]) rfl rfl aZ lY rfl))
  obtain⟨r5,hr5,h⟩:=bS h
  refine dq [178] [178] (.hs 194 0 [] 1 0 (r5.map str).length) rfl (cG rfl rfl (cY rfl rfl rfl (cy (dw rfl) (nF (mD rfl (gZ (path:=[]) rfl rfl aZ rfl)) dP)) (Vc hr5) (.inr rfl) (lT rfl rfl rfl gp eh) rfl rfl rfl)) ?_ (dV rfl rfl rfl rfl (cy (dw rfl) (nF (mD rfl (gZ (path:=[]) rfl rfl aZ rfl)) dP)) (Vc hr5) (.inr rfl) rfl)
  refine dk 1 [3] [.hs 194 0 [] 1 0 (r5.map str).length] ?_
  refine de 226 rfl rfl ?_
  refine cq 5 [10] [I (au (x2.1+1))] 258 ?_
  refine cW ?_
  exact rf [3,8,9,10] [194] (ih _ _ h hr hn :)
 ·refine aq 1 ?_
  exact rf [3] [1] (hn _ (aj h) :) (hk:=hK)
theorem V0 (c_1:Contract)(r:(List ac))(h:ym c_1=some r):bz M7 Tryz.f125 [false] 0 (HA c_1) (HB r):=by
 show Run _ _ (Vh c_1 r) [.code Vi] _
 refine rI 25 [(0,aa c_1)] [] 1 ?_
 unfold ym at h
 refine ck 7 [1] [] [1] [] [.hp 1 0 [] 2 0 0] [some ⟨0,2,[aa c_1]⟩] 33 (by kernel_rfl) ?_
 refine oq 49 (.hs 33 0 [] 1 0 0) rfl (d7 rfl (kW (f:=I) (xs:=[]) (z:=str ([])) (es:=[]) (ws:=[]) rfl rfl rfl (by decide) rfl (dB rfl) rfl)) ?_
 refine cq 7 [3,8] [.hs 33 0 [] 1 0 0,.isl false (c_1.Clauses.map an)] 97 ?_
 refine oq 113 (I (len c_1.Clauses)) rfl (bd rfl rfl rfl (bw rfl)) ?_
 refine cq 3 [10] [I (0)] 129 ?_
 obtain⟨y6,hy6,hy61,hy62⟩:=bJ h
 refine bM rfl ?_
 refine rf [3,8,9,10] [33] (M8 c_1 rfl (0,[]) _ hy6 (fun r' e st hq=>by rw[hy61 r' e] at hq;exact hq) fun u6 hu=>?_)
 replace h:=hy62 u6 hu
 refine cq 3 [23] [.hs 1 0 [] 1 0 (u6.map str).length] 18 ?_
 obtain⟨r7,hr7,h⟩:=bS h
 refine oq 34 (.hs 18 0 [] 1 0 (r7.map str).length) rfl (cG rfl rfl (cY rfl rfl rfl (nF (mD rfl (gZ (path:=[]) rfl rfl aZ rfl)) dP) (Z0 hr7) (.inr rfl) (lT rfl rfl rfl gp eh) rfl rfl rfl)) ?_
 refine cq 2 [2] [.hs 18 0 [] 1 0 (r7.map str).length] 50 ?_
 obtain rfl:=Option.some.inj h
 exact bW rfl ⟨_,fin (vs:=[.hs 18 0 [] 1 0 (r7.map str).length]) rfl (fg (eV rfl (cZ rfl rfl)) ey) rfl (eT fB),fh⟩
theorem Jh {G:Go.Ln.Ground}:aP Tryz.prog G 125 wV:=gT 1 0 (aL TQ (aL T8 bC)) cd Tryz.func125 (fun a r h=>V0 a r h)
noncomputable def Hg:Contract→List V:=oA aM
noncomputable def Hi (r:Bool):V×List V:=(B r,[])
noncomputable def Ff:Ent:=bm [false] Hg Hi fun x=>Ii x
theorem Zo {c_1:Contract}{r}(h:Ii c_1=some r):Ff.F (Hg c_1)=some (Hi r):=aG (aH ba) h
noncomputable def Hj:Code:=aD Tryz.f65
noncomputable def Hh:Env:=bT Tryz.prog [(123,FB),(124,FG),(125,wV),(86,ij)]
noncomputable def Bb (x:Contract)(r:Bool):St→Prop:=QF Hh Tryz.f65 [false] (Hg x) (Hi r)
theorem My (c_1:Contract):ci Hh 0 (Bb c_1) (cL (cL (cR (cL (cR (cR Hj)))))) 0 (mM c_1) (fun u=>(sT 30 [(1,.hp 1 0 [] 2 0 0)] [⟨0,2,[aa c_1]⟩] 2)) fun x4=>(sT 30 [(1,.hp 1 0 [] 2 0 0),(17,I (len c_1.Clauses)),(18,I x4)] [⟨0,2,[aa c_1]⟩] 2):=dY (Bc c_1) fun {Q K} hK self ih x4 y h hr hn=>by
 unfold lM at h
 refine cq 5 [19] [B (decide (x4<(len c_1.Clauses)))] 18 ?_
 refine sq h ?_ ?_<;>intro h
 ·refine aq 1 ?_
  refine cq 11 [21,22] [aa c_1,I x4] 82 ?_
  obtain⟨r5,hr5,h⟩:=bS h
  refine oq 98 (B r5) rfl (cP (ZE hr5)) ?_
  refine cq 2 [24] [B (!r5)] 114 ?_
  refine sq h ?_ ?_<;>intro h
  ·refine cq 4 [2] [B false] 130 ?_
   exact bW rfl (hr _ (aj h) _ (qp [B false]))
  ·refine aq 1 ?_
   refine cq 5 [18] [I (au (x4+1))] 146 ?_
   refine cW ?_
   exact rf [1,17,18] [1] (ih _ _ h hr hn :)
 ·refine aq 1 ?_
  exact rf [1] [1] (hn _ (aj h) :) (hk:=hK)
theorem VF (c_1:Contract)(r:Bool)(h:Ii c_1=some r):bz Hh Tryz.f65 [false] 0 (Hg c_1) (Hi r):=by
 show Run _ _ (Bb c_1 r) [.code Hj] _
 refine rI 30 [(0,aa c_1)] [] 1 ?_
 unfold Ii at h
 refine ck 10 [1,5] [] [1] [] [.hp 1 0 [] 2 0 0,.isl false (c_1.Parties.map str)] [some ⟨0,2,[aa c_1]⟩] 65 (by kernel_rfl) ?_
 obtain⟨r2,hr2,h⟩:=bS h
 refine oq 81 (B r2) rfl (cP (Zu hr2)) ?_
 refine cq 2 [8] [B (!r2)] 113 ?_
 obtain⟨y3,hy3,hy31,hy32⟩:=bJ h
 have j3:∀u3,y3=.inr u3→Run Hh 0 (Bb c_1 r) (.code (cR (cL (cR Hj)))::.code (cR (cR Hj))::[]) (sT 30 [(1,.hp 1 0 [] 2 0 0),(14,B u3)] [⟨0,2,[aa c_1]⟩] 2):=by
  intro u3 hu
  replace h:=hy32 u3 hu
  refine sq h ?_ ?_<;>intro h
  ·refine cq 4 [2] [B false] 18 ?_
   obtain rfl:=Option.some.inj h
   exact rP [B false]
  ·refine aq 1 ?_
   refine cq 5 [16] [.isl false (c_1.Clauses.map an)] 34 ?_
   refine oq 50 (I (len c_1.Clauses)) rfl (bd rfl rfl rfl (bw rfl)) ?_
   refine cq 3 [18] [I (0)] 66 ?_
   obtain⟨y6,hy6,hy61,hy62⟩:=bJ h
   refine bM rfl ?_
   refine rf [1,17,18] [1] (My c_1 rfl 0 _ hy6 (fun r' e st hq=>by rw[hy61 r' e] at hq;exact hq) fun u6 hu=>?_)
   replace h:=hy62 u6 hu
   refine cq 3 [26] [aa c_1] 18 ?_
   obtain⟨r7,hr7,h⟩:=bS h
   refine oq 34 (.hs 18 0 [] 1 0 (r7.map str).length) rfl (cP (Vg hr7)) ?_
   refine oq 50 (I (len r7)) rfl (bd rfl rfl rfl (oC (f:=str) (xs:=r7) rfl rfl)) ?_
   refine cq 3 [2] [B (decide ((len r7)≤16))] 82 ?_
   obtain rfl:=Option.some.inj h
   exact rP [B (decide ((len r7)≤16))]
 have r3:∀r',y3=.inl r'→∀st,Bb c_1 r' st→(Bb c_1 r) st:=fun r' e st hq=>by rw[hy31 r' e] at hq;exact hq
 replace h:=hy3
 refine sp 8 h rfl ?_ ?_<;>intro h
 ·refine cq 7 [14] [B true] 209 ?_
  exact rf [1,14] [1] (j3 _ (aj h) :)
 ·refine cq 2 [10] [.isl false (c_1.Clauses.map an)] 145 ?_
  refine oy 161 (I (len c_1.Clauses)) rfl (bd rfl rfl rfl (bw rfl)) ?_
  obtain⟨r8,hr8,h⟩:=bS h
  refine oy 177 (B r8) rfl (cP (hZ hr8)) ?_
  refine cq 3 [14] [B (!r8)] 209 ?_
  exact rf [1,14] [1] (j3 _ (aj h) :)
theorem So {G:Go.Ln.Ground}:aP Tryz.prog G 65 Ff:=gT 1 0 (aL TR (aL TX (aL Jh (aL iY bC)))) cd Tryz.func65 (fun a r h=>VF a r h)
noncomputable def HQ:(List ac)→List V:=oA (fj str)
noncomputable def HS (r:Bool):V×List V:=(B r,[])
noncomputable def FL:Ent:=bm [false] HQ HS fun x=>Jo x
theorem ZR {bO:List ac}{r}(h:Jo bO=some r):FL.F (HQ bO)=some (HS r):=aG (aH (bR bH)) h
noncomputable def Vo:Code:=aD Tryz.f127
noncomputable abbrev sK:Code:=cL (cL (cR (cL (cR Vo))))
noncomputable abbrev Q9:Code:=cR (cR (cL (cL (cR (cR sK)))))
noncomputable def Ed:Env:=bT Tryz.prog [(159,pM)]
noncomputable def HR (x:(List ac))(r:Bool):St→Prop:=QF Ed Tryz.f127 [false] (HQ x) (HS r)
theorem M9 (bO:List ac):ci Ed 0 (HR bO) sK 0 (mT bO) (fun u=>(sT 32 [(0,.isl false (bO.map str))] [] 1)) fun x2=>(sT 32 [(0,.isl false (bO.map str)),(5,.isl false (bO.map str)),(6,I (len bO)),(7,I x2)] [] 1):=dY (Ee bO) fun {Q K} hK self ih x2 y h hr hn=>by
 unfold lP at h
 refine cq 5 [8] [B (decide (x2<(len bO)))] 17 ?_
 refine sq h ?_ ?_<;>intro h
 ·refine aq 1 ?_
  refine cq 5 [9] [I x2] 33 ?_
  obtain⟨e3,he3,h⟩:=bS h
  refine oq 49 (.iptr (str e3) 0) rfl (ap rfl rfl rfl (aY rfl rfl rfl rfl he3)) ?_
  refine cq 7 [3,4,12] [I x2,str e3,str e3] 113 ?_
  obtain⟨r4,hr4,h⟩:=bS h
  refine oq 129 (B r4) rfl (cP (B0 hr4)) ?_
  refine cq 2 [15] [B (!r4)] 161 ?_
  obtain⟨y5,hy5,hy51,hy52⟩:=bL h
  have j5:∀u5,y5=.inr u5→Run Ed 0 Q (.code Q9::.blk 1::.code (cR (cR (cR sK)))::.lp sK::.blk 0::K) (sT 32 [(0,.isl false (bO.map str)),(5,.isl false (bO.map str)),(6,I (len bO)),(7,I x2),(27,B u5)] [] 1):=by
   intro u5 hu
   replace h:=hy52 u5 hu
   refine sq h ?_ ?_<;>intro h
   ·refine cq 4 [2] [B false] 17 ?_
    exact bW rfl (hr _ (aj h) _ (qp [B false]))
   ·refine aq 1 ?_
    refine cq 5 [7] [I (au (x2+1))] 33 ?_
    refine cW ?_
    exact rf [0,5,6,7] [] (ih _ _ h hr hn :)
  have r5:∀r',y5=.inl r'→∀st,HR bO r' st→Q st:=fun r' e st hq=>hr r' (hy51 r' e) st hq
  replace h:=hy5
  refine sp 15 h rfl ?_ ?_<;>intro h
  ·refine cq 13 [27] [B true] 353 ?_
   exact rf [0,5,6,7,27] [] (j5 _ (aj h) :)
  ·refine cq 3 [18] [B (decide (x2>0))] 209 ?_
   obtain⟨y6,hy6,hy61,hy62⟩:=bL h
   have j6:∀u6,y6=.inr u6→Run Ed 0 Q (.code Q9::.blk 1::.code (cR (cR (cR sK)))::.lp sK::.blk 0::K) (sT 32 [(0,.isl false (bO.map str)),(5,.isl false (bO.map str)),(6,I (len bO)),(7,I x2),(27,B u6)] [] 1):=by
    intro u6 hu
    replace h:=hy62 u6 hu
    exact rf [0,5,6,7,27] [] (j5 _ (aj h) :)
   have r6:∀r',y6=.inl r'→∀st,HR bO r' st→Q st:=fun r' e st hq=>r5 r' (hy61 r' e) st hq
   replace h:=hy6
   refine sp 18 h rfl ?_ ?_<;>intro h
   ·refine cq 4 [19,20,22] [str e3,.isl false (bO.map str),I (au (x2 - 1))] 273 ?_
    obtain⟨e7,he7,h⟩:=bS h
    refine oy 289 (.iptr (str e7) 0) rfl (ap rfl rfl rfl (aY rfl rfl rfl rfl he7)) ?_
    refine cq 5 [27] [B (Op.bytesLess e3 e7||e3==e7)] 353 ?_
    exact rf [0,5,6,7,27] [] (j6 _ (aj h) :)
   ·refine cq 10 [27] [B false] 353 ?_
    exact rf [0,5,6,7,27] [] (j6 _ (aj h) :)
 ·refine aq 1 ?_
  exact rf [0] [] (hn _ (aj h) :) (hk:=hK)
theorem V8 (bO:List ac)(r:Bool)(h:Jo bO=some r):bz Ed Tryz.f127 [false] 0 (HQ bO) (HS r):=by
 show Run _ _ (HR bO r) [.code Vo] _
 refine rI 32 [(0,.isl false (bO.map str))] [] 1 ?_
 unfold Jo at h
 refine cq 8 [5] [.isl false (bO.map str)] 33 ?_
 refine oq 49 (I (len bO)) rfl (bd rfl rfl rfl (bw rfl)) ?_
 refine cq 3 [7] [I (0)] 65 ?_
 obtain⟨y8,hy8,hy81,hy82⟩:=bJ h
 refine bM rfl ?_
 refine rf [0,5,6,7] [] (M9 bO rfl 0 _ hy8 (fun r' e st hq=>by rw[hy81 r' e] at hq;exact hq) fun u8 hu=>?_)
 replace h:=hy82 u8 hu
 refine cq 3 [29] [.isl false (bO.map str)] 17 ?_
 refine oq 33 (I (len bO)) rfl (bd rfl rfl rfl (bw rfl)) ?_
 refine cq 3 [2] [B (decide ((len bO)≤16))] 65 ?_
 obtain rfl:=Option.some.inj h
 exact rP [B (decide ((len bO)≤16))]
theorem T3 {G:Go.Ln.Ground}:aP Tryz.prog G 127 FL:=gT 1 0 (aL tx bC) cd Tryz.func127 (fun a r h=>V8 a r h)
noncomputable def HV:(ac×(List ac))→List V:=cA str (oA (fun x:List ac=>.iptr ((fj str) x) 0))
noncomputable def HW (r:Bool):V×List V:=(B r,[])
noncomputable def FN:Ent:=bm [false,false] HV HW fun x=>Jq x.1 x.2
theorem ZT {f_1:ac}{a_2:List ac}{r}(h:Jq f_1 a_2=some r):FN.F (HV (f_1,a_2))=some (HW r):=aG (br bH (aH (qt (bR bH)))) h
noncomputable def ZV:Code:=aD Tryz.f129
noncomputable def Vp:Env:=bT Tryz.prog [(130,pW)]
noncomputable def ZU (x:ac×(List ac))(r:Bool):St→Prop:=QF Vp Tryz.f129 [false,false] (HV x) (HW r)
theorem Wa (f_1:ac)(a_2:List ac)(r:Bool)(h:Jq f_1 a_2=some r):bz Vp Tryz.f129 [false,false] 0 (HV (f_1,a_2)) (HW r):=by
 show Run _ _ (ZU (f_1,a_2) r) [.code ZV] _
 refine rI 8 [(0,str f_1),(1,.iptr (.isl false (a_2.map str)) 0)] [] 1 ?_
 unfold Jq at h
 refine cq 8 [4,5] [.isl false (a_2.map str),str f_1] 49 ?_
 obtain⟨r3,hr3,h⟩:=bS h
 refine oq 65 (B r3) rfl (cP (IJ hr3)) ?_
 refine cq 3 [3] [B (!r3)] 97 ?_
 obtain rfl:=Option.some.inj h
 exact rP [B (!r3)]
theorem T5 {G:Go.Ln.Ground}:aP Tryz.prog G 129 FN:=gT 2 0 (aL vu bC) cd Tryz.func129 (fun a r h=>Wa a.1 a.2 r h)
noncomputable def CG:((List ac)×(List ac))→List V:=cA (fj str) (oA (fun x:(List ac)=>(.fn 129 [.iptr ((fj str) x) 0]:V)))
noncomputable def CH (r:Int):V×List V:=(I r,[])
noncomputable def zS:Ent:=bm [false,false] CG CH fun x=>Fq x.1 x.2
theorem Yj {s_1:List ac}{f_2:(List ac)}{r}(h:Fq s_1 f_2=some r):zS.F (CG (s_1,f_2))=some (CH r):=aG (br (bR bH) (aH (sU (bR bH)))) h
noncomputable def P1:Code:=aD Tryz.f188
noncomputable def IP:Env:=bT Tryz.prog [(129,FN)]
noncomputable def P0 (x:(List ac)×(List ac))(r:Int):St→Prop:=QF IP Tryz.f188 [false,false] (CG x) (CH r)
theorem KY (s_1:List ac)(f_2:(List ac)):ci IP 0 (P0 (s_1,f_2)) (cL (cL (cR (cL (cR P1))))) 0 (se s_1 f_2) (fun u=>(sT 19 [] [] 1)) fun x3=>(sT 19 [(0,.isl false (s_1.map str)),(1,.fn 129 [.iptr (.isl false (f_2.map str)) 0]),(7,I (len s_1)),(8,I x3)] [] 1):=dY (xK s_1 f_2) fun {Q K} hK self ih x3 y h hr hn=>by
 unfold mh at h
 refine cq 5 [9] [B (decide (x3<(len s_1)))] 17 ?_
 refine sq h ?_ ?_<;>intro h
 ·refine aq 1 ?_
  refine cq 12 [5,11,12,13] [I x3,.fn 129 [.iptr (.isl false (f_2.map str)) 0],.isl false (s_1.map str),I x3] 97 ?_
  obtain⟨e4,he4,h⟩:=bS h
  refine oq 113 (.iptr (str e4) 0) rfl (ap rfl rfl rfl (aY rfl rfl rfl rfl he4)) ?_
  refine cq 1 [15] [str e4] 129 ?_
  obtain⟨r5,hr5,h⟩:=bS h
  refine oq 145 (B r5) rfl (cP (ZT hr5)) ?_
  refine aq 1 ?_
  refine sq h ?_ ?_<;>intro h
  ·refine cq 5 [4] [I x3] 177 ?_
   exact bW rfl (hr _ (aj h) _ (qp [I x3]))
  ·refine aq 1 ?_
   refine cq 5 [8] [I (au (x3+1))] 177 ?_
   refine cW ?_
   exact rf [0,1,7,8] [] (ih _ _ h hr hn :)
 ·refine aq 1 ?_
  exact rf [] [] (hn _ (aj h) :) (hk:=hK)
theorem Ta (s_1:List ac)(f_2:(List ac))(r:Int)(h:Fq s_1 f_2=some r):bz IP Tryz.f188 [false,false] 0 (CG (s_1,f_2)) (CH r):=by
 show Run _ _ (P0 (s_1,f_2) r) [.code P1] _
 refine rI 19 [(0,.isl false (s_1.map str)),(1,.fn 129 [.iptr (.isl false (f_2.map str)) 0])] [] 1 ?_
 unfold Fq at h
 refine cq 8 [6] [.isl false (s_1.map str)] 33 ?_
 refine oq 49 (I (len s_1)) rfl (bd rfl rfl rfl (bw rfl)) ?_
 refine cq 3 [8] [I (0)] 65 ?_
 obtain⟨y6,hy6,hy61,hy62⟩:=bJ h
 refine bM rfl ?_
 refine rf [0,1,7,8] [] (KY s_1 f_2 rfl 0 _ hy6 (fun r' e st hq=>by rw[hy61 r' e] at hq;exact hq) fun u6 hu=>?_)
 replace h:=hy62 u6 hu
 refine cq 4 [4] [I (-1)] 17 ?_
 obtain rfl:=Option.some.inj h
 exact rP [I (-1)]
theorem P2 {G:Go.Ln.Ground}:aP Tryz.prog G 188 zS:=gT 2 0 (aL T5 bC) cd Tryz.func188 (fun a r h=>Ta a.1 a.2 r h)
noncomputable def Ct:((List ac)×(List ac))→List V:=cA (fj str) (oA (fun x:(List ac)=>(.fn 129 [.iptr ((fj str) x) 0]:V)))
noncomputable def Cu (r:Bool):V×List V:=(B r,[])
noncomputable def zN:Ent:=bm [false,false] Ct Cu fun x=>Fl x.1 x.2
theorem Ya {s_1:List ac}{f_2:(List ac)}{r}(h:Fl s_1 f_2=some r):zN.F (Ct (s_1,f_2))=some (Cu r):=aG (br (bR bH) (aH (sU (bR bH)))) h
noncomputable def Yc:Code:=aD Tryz.f128
noncomputable def PL:Env:=bT Tryz.prog [(188,zS)]
noncomputable def Yb (x:(List ac)×(List ac))(r:Bool):St→Prop:=QF PL Tryz.f128 [false,false] (Ct x) (Cu r)
theorem S4 (s_1:List ac)(f_2:(List ac))(r:Bool)(h:Fl s_1 f_2=some r):bz PL Tryz.f128 [false,false] 0 (Ct (s_1,f_2)) (Cu r):=by
 show Run _ _ (Yb (s_1,f_2) r) [.code Yc] _
 refine rI 9 [(0,.isl false (s_1.map str)),(1,.fn 129 [.iptr (.isl false (f_2.map str)) 0])] [] 1 ?_
 unfold Fl at h
 refine cq 8 [5,6] [.isl false (s_1.map str),.fn 129 [.iptr (.isl false (f_2.map str)) 0]] 49 ?_
 obtain⟨r3,hr3,h⟩:=bS h
 refine oq 65 (I r3) rfl (cG rfl rfl (cY rfl rfl rfl (cy (dw rfl) (cy (Ks (dX (iX rfl) ly)) dP)) (Yj hr3) (.inr rfl) eh rfl rfl rfl)) ?_
 refine cq 3 [4] [B (decide (r3≥0))] 97 ?_
 obtain rfl:=Option.some.inj h
 exact rP [B (decide (r3≥0))]
theorem PM {G:Go.Ln.Ground}:aP Tryz.prog G 128 zN:=gT 2 0 (aL P2 bC) cd Tryz.func128 (fun a r h=>S4 a.1 a.2 r h)
noncomputable def H4:(List Int)→List V:=oA (fj I)
noncomputable def H5 (r:Int):V×List V:=(I r,[])
noncomputable def FR:Ent:=bm [false] H4 H5 fun x=>Gz x
theorem Z3 {ao:List Int}{r}(h:Gz ao=some r):FR.F (H4 ao)=some (H5 r):=aG (aH (bR bZ)) h
noncomputable def Vt:Code:=aD Tryz.f131
noncomputable def Nf:Env:=bT Tryz.prog []
noncomputable def Vs (x:(List Int))(r:Int):St→Prop:=QF Nf Tryz.f131 [false] (H4 x) (H5 r)
theorem Nh (ao:List Int):ci Nf 0 (Vs ao) (cL (cL (cR (cL (cR (cR Vt)))))) 0 (Jv ao) (fun u=>(sT 17 [(3,I u)] [] 1)) fun x2=>(sT 17 [(3,I x2.1),(6,.isl false (ao.map I)),(7,I (len ao)),(8,I x2.2)] [] 1):=dY (Ng ao) fun {Q K} hK self ih x2 y h hr hn=>by
 unfold tS at h
 refine cq 5 [9] [B (decide (x2.2<(len ao)))] 17 ?_
 refine sq h ?_ ?_<;>intro h
 ·refine aq 1 ?_
  refine aq 4 ?_
  obtain⟨e3,he3,h⟩:=bS h
  refine oq 33 (.iptr (I e3) 0) rfl (ap rfl rfl rfl (aY rfl rfl rfl rfl he3)) ?_
  refine cq 14 [3,8] [I (au (x2.1+e3)),I (au (x2.2+1))] 161 ?_
  refine cW ?_
  exact rf [3,6,7,8] [] (ih _ _ h hr hn :)
 ·refine aq 1 ?_
  exact rf [3] [] (hn _ (aj h) :) (hk:=hK)
theorem Wg (ao:List Int)(r:Int)(h:Gz ao=some r):bz Nf Tryz.f131 [false] 0 (H4 ao) (H5 r):=by
 show Run _ _ (Vs ao r) [.code Vt] _
 refine rI 17 [(0,.isl false (ao.map I))] [] 1 ?_
 unfold Gz at h
 refine cq 12 [3,6] [I (0),.isl false (ao.map I)] 49 ?_
 refine oq 65 (I (len ao)) rfl (bd rfl rfl rfl (bw rfl)) ?_
 refine cq 3 [8] [I (0)] 81 ?_
 obtain⟨y4,hy4,hy41,hy42⟩:=bJ h
 refine bM rfl ?_
 refine rf [3,6,7,8] [] (Nh ao rfl (0,0) _ hy4 (fun r' e st hq=>by rw[hy41 r' e] at hq;exact hq) fun u4 hu=>?_)
 replace h:=hy42 u4 hu
 refine cq 5 [2] [I u4] 33 ?_
 obtain rfl:=Option.some.inj h
 exact rP [I u4]
theorem T9 {G:Go.Ln.Ground}:aP Tryz.prog G 131 FR:=gT 1 0 bC cd Tryz.func131 (fun a r h=>Wg a r h)
noncomputable def HK:(Clause×Contract×Int)→List V:=cA an (cA (fun x:Contract=>.iptr (aM x) 0) (oA (fun x:Int=>.iptr (I x) 0)))
noncomputable def HL (r:Bool):V×List V:=(B r,[])
noncomputable def FI:Ent:=bm [false,false,false] HK HL fun x=>Jm x.1 x.2.1 x.2.2
theorem ZK {x_1:Clause}{a_2:Contract}{a_3:Int}{r}(h:Jm x_1 a_2 a_3=some r):FI.F (HK (x_1,a_2,a_3))=some (HL r):=aG (br dh (br (qt ba) (aH (qt bZ)))) h
noncomputable def ZM:Code:=aD Tryz.f222
noncomputable def Vm:Env:=bT Tryz.prog []
noncomputable def ZL (x:Clause×Contract×Int)(r:Bool):St→Prop:=QF Vm Tryz.f222 [false,false,false] (HK x) (HL r)
theorem V5 (x_1:Clause)(a_2:Contract)(a_3:Int)(r:Bool)(h:Jm x_1 a_2 a_3=some r):bz Vm Tryz.f222 [false,false,false] 0 (HK (x_1,a_2,a_3)) (HL r):=by
 show Run _ _ (ZL (x_1,a_2,a_3) r) [.code ZM] _
 refine rI 14 [(0,ar x_1),(1,.iptr (aa a_2) 0),(2,.iptr (I a_3) 0)] [] 1 ?_
 unfold Jm at h
 refine ck 6 [3] [] [1] [] [.hp 1 0 [] 12 0 0] [some ⟨0,12,[ar x_1]⟩] 33 (by kernel_rfl) ?_
 refine eB [0,1,0,4,0,28,60,124,255,511] rfl (by decide +kernel) ?_
 refine dq [1] [] (.hp 1 0 [] 12 0 11) rfl (ay rfl rfl rfl) ?_
 refine dq [1] [] (str x_1.Repair) rfl (bb rfl rfl) ?_
 refine dq [] [] (.iptr (aa a_2) 1) rfl (ay rfl rfl rfl) ?_
 refine dq [] [] (.isl false (a_2.Clauses.map an)) rfl (bb rfl rfl) ?_
 refine dq [] [] (I a_3) rfl (bb rfl rfl) ?_
 obtain⟨e4,he4,h⟩:=bS h
 refine dq [] [] (.iptr (ar e4) 0) rfl (ap rfl rfl rfl (aY rfl rfl rfl rfl he4)) ?_
 refine dq [] [] (.iptr (ar e4) 0) rfl (ay rfl rfl rfl) ?_
 refine dq [] [] (str e4.Id) rfl (bb rfl rfl) ?_
 refine dk 2 [4,13] [B (x_1.Repair==e4.Id),B (x_1.Repair==e4.Id)] ?_
 refine de 193 rfl rfl ?_
 obtain rfl:=Option.some.inj h
 exact rP [B (x_1.Repair==e4.Id)]
theorem TZ {G:Go.Ln.Ground}:aP Tryz.prog G 222 FI:=gT 3 0 bC cd Tryz.func222 (fun a r h=>V5 a.1 a.2.1 a.2.2 r h)
noncomputable def CA:((List Clause)×(Contract×Int))→List V:=cA (fj an) (oA (fun x:Contract×Int=>(.fn 222 [.iptr (aM x.1) 0,.iptr (I x.2) 0]:V)))
noncomputable def CB (r:Int):V×List V:=(I r,[])
noncomputable def zP:Ent:=bm [false,false] CA CB fun x=>Fn x.1 x.2
theorem Yg {s_1:List Clause}{f_2:Contract×Int}{r}(h:Fn s_1 f_2=some r):zP.F (CA (s_1,f_2))=some (CB r):=aG (br (bR dh) (aH (L9 ba bZ))) h
noncomputable def PS:Code:=aD Tryz.f160
noncomputable def IL:Env:=bT Tryz.prog [(222,FI)]
noncomputable def PR (x:(List Clause)×(Contract×Int))(r:Int):St→Prop:=QF IL Tryz.f160 [false,false] (CA x) (CB r)
theorem KV (s_1:List Clause)(f_2:Contract×Int):ci IL 0 (PR (s_1,f_2)) (cL (cL (cR (cL (cR PS))))) 0 (sa s_1 f_2) (fun u=>(sT 19 [] [] 1)) fun x3=>(sT 19 [(0,.isl false (s_1.map an)),(1,.fn 222 [.iptr (aa f_2.1) 0,.iptr (I f_2.2) 0]),(7,I (len s_1)),(8,I x3)] [] 1):=dY (xH s_1 f_2) fun {Q K} hK self ih x3 y h hr hn=>by
 unfold me at h
 refine cq 5 [9] [B (decide (x3<(len s_1)))] 17 ?_
 refine sq h ?_ ?_<;>intro h
 ·refine aq 1 ?_
  refine cq 12 [5,11,12,13] [I x3,.fn 222 [.iptr (aa f_2.1) 0,.iptr (I f_2.2) 0],.isl false (s_1.map an),I x3] 97 ?_
  obtain⟨e4,he4,h⟩:=bS h
  refine oq 113 (.iptr (ar e4) 0) rfl (ap rfl rfl rfl (aY rfl rfl rfl rfl he4)) ?_
  refine cq 1 [15] [ar e4] 129 ?_
  obtain⟨r5,hr5,h⟩:=bS h
  refine oq 145 (B r5) rfl (cP (ZK hr5)) ?_
  refine aq 1 ?_
  refine sq h ?_ ?_<;>intro h
  ·refine cq 5 [4] [I x3] 177 ?_
   exact bW rfl (hr _ (aj h) _ (qp [I x3]))
  ·refine aq 1 ?_
   refine cq 5 [8] [I (au (x3+1))] 177 ?_
   refine cW ?_
   exact rf [0,1,7,8] [] (ih _ _ h hr hn :)
 ·refine aq 1 ?_
  exact rf [] [] (hn _ (aj h) :) (hk:=hK)
theorem S7 (s_1:List Clause)(f_2:Contract×Int)(r:Int)(h:Fn s_1 f_2=some r):bz IL Tryz.f160 [false,false] 0 (CA (s_1,f_2)) (CB r):=by
 show Run _ _ (PR (s_1,f_2) r) [.code PS] _
 refine rI 19 [(0,.isl false (s_1.map an)),(1,.fn 222 [.iptr (aa f_2.1) 0,.iptr (I f_2.2) 0])] [] 1 ?_
 unfold Fn at h
 refine cq 8 [6] [.isl false (s_1.map an)] 33 ?_
 refine oq 49 (I (len s_1)) rfl (bd rfl rfl rfl (bw rfl)) ?_
 refine cq 3 [8] [I (0)] 65 ?_
 obtain⟨y6,hy6,hy61,hy62⟩:=bJ h
 refine bM rfl ?_
 refine rf [0,1,7,8] [] (KV s_1 f_2 rfl 0 _ hy6 (fun r' e st hq=>by rw[hy61 r' e] at hq;exact hq) fun u6 hu=>?_)
 replace h:=hy62 u6 hu
 refine cq 4 [4] [I (-1)] 17 ?_
 obtain rfl:=Option.some.inj h
 exact rP [I (-1)]
theorem PT {G:Go.Ln.Ground}:aP Tryz.prog G 160 zP:=gT 2 0 (aL TZ bC) cd Tryz.func160 (fun a r h=>S7 a.1 a.2 r h)
noncomputable def Cm:((List Clause)×(Contract×Int))→List V:=cA (fj an) (oA (fun x:Contract×Int=>(.fn 222 [.iptr (aM x.1) 0,.iptr (I x.2) 0]:V)))
noncomputable def Cn (r:Bool):V×List V:=(B r,[])
noncomputable def zK:Ent:=bm [false,false] Cm Cn fun x=>Fi x.1 x.2
theorem X1 {s_1:List Clause}{f_2:Contract×Int}{r}(h:Fi s_1 f_2=some r):zK.F (Cm (s_1,f_2))=some (Cn r):=aG (br (bR dh) (aH (L9 ba bZ))) h
noncomputable def X3:Code:=aD Tryz.f221
noncomputable def PF:Env:=bT Tryz.prog [(160,zP)]
noncomputable def X2 (x:(List Clause)×(Contract×Int))(r:Bool):St→Prop:=QF PF Tryz.f221 [false,false] (Cm x) (Cn r)
theorem S1 (s_1:List Clause)(f_2:Contract×Int)(r:Bool)(h:Fi s_1 f_2=some r):bz PF Tryz.f221 [false,false] 0 (Cm (s_1,f_2)) (Cn r):=by
 show Run _ _ (X2 (s_1,f_2) r) [.code X3] _
 refine rI 9 [(0,.isl false (s_1.map an)),(1,.fn 222 [.iptr (aa f_2.1) 0,.iptr (I f_2.2) 0])] [] 1 ?_
 unfold Fi at h
 refine cq 8 [5,6] [.isl false (s_1.map an),.fn 222 [.iptr (aa f_2.1) 0,.iptr (I f_2.2) 0]] 49 ?_
 obtain⟨r3,hr3,h⟩:=bS h
 refine oq 65 (I r3) rfl (cG rfl rfl (cY rfl rfl rfl (cy (dw rfl) (cy (Ks (dX (iX rfl) (dX (iX rfl) ly))) dP)) (Yg hr3) (.inr rfl) eh rfl rfl rfl)) ?_
 refine cq 3 [4] [B (decide (r3≥0))] 97 ?_
 obtain rfl:=Option.some.inj h
 exact rP [B (decide (r3≥0))]
theorem PG {G:Go.Ln.Ground}:aP Tryz.prog G 221 zK:=gT 2 0 (aL PT bC) cd Tryz.func221 (fun a r h=>S1 a.1 a.2 r h)
noncomputable def HI:(Contract×Int)→List V:=cA aM (oA I)
noncomputable def HJ (r:Bool):V×List V:=(B r,[])
noncomputable def FH:Ent:=bm [false,false] HI HJ fun x=>Jl x.1 x.2
theorem ZH {c_1:Contract}{i_2:Int}{r}(h:Jl c_1 i_2=some r):FH.F (HI (c_1,i_2))=some (HJ r):=aG (br ba (aH bZ)) h
noncomputable def ZJ:Code:=aD Tryz.f190
noncomputable def Vl:Env:=bT Tryz.prog [(221,zK)]
noncomputable def ZI (x:Contract×Int)(r:Bool):St→Prop:=QF Vl Tryz.f190 [false,false] (HI x) (HJ r)
theorem V4 (c_1:Contract)(i_2:Int)(r:Bool)(h:Jl c_1 i_2=some r):bz Vl Tryz.f190 [false,false] 0 (HI (c_1,i_2)) (HJ r):=by
 show Run _ _ (ZI (c_1,i_2) r) [.code ZJ] _
 refine rI 9 [(0,aa c_1),(1,I i_2)] [] 1 ?_
 unfold Jl at h
 refine ck 11 [6,7] [] [1,17] [] [.isl false (c_1.Clauses.map an),.fn 222 [.hp 1 0 [] 2 0 0,.hp 17 0 [] 1 0 0]] [some ⟨0,2,[aa c_1]⟩,some ⟨0,1,[I i_2]⟩] 97 (by kernel_rfl) ?_
 obtain⟨r3,hr3,h⟩:=bS h
 refine oq 113 (B r3) rfl (cG rfl rfl (cY rfl rfl rfl (cy (dw rfl) (cy (Ks (dX (wD (path:=[]) rfl rfl aZ rfl rfl) (dX (wD (path:=[]) rfl rfl aZ rfl rfl) ly))) dP)) (X1 hr3) (.inl rfl) eh rfl rfl rfl)) ?_
 refine cq 2 [4] [B r3] 129 ?_
 obtain rfl:=Option.some.inj h
 exact rP [B r3]
theorem TY {G:Go.Ln.Ground}:aP Tryz.prog G 190 FH:=gT 2 0 (aL PG bC) cd Tryz.func190 (fun a r h=>V4 a.1 a.2 r h)
noncomputable def HO:(Duty×Duty)→List V:=cA ae (oA (fun x:Duty=>.iptr (ae x) 0))
noncomputable def HP (r:Bool):V×List V:=(B r,[])
noncomputable def FK:Ent:=bm [false,false] HO HP fun x=>LZ x.1 x.2
theorem ZO {iT:Duty}{a_2:Duty}{r}(h:LZ iT a_2=some r):FK.F (HO (iT,a_2))=some (HP r):=aG (br dW (aH (qt dW))) h
noncomputable def ZQ:Code:=aD Tryz.f191
noncomputable def Vn:Env:=bT Tryz.prog []
noncomputable def ZP (x:Duty×Duty)(r:Bool):St→Prop:=QF Vn Tryz.f191 [false,false] (HO x) (HP r)
theorem V7 (iT:Duty)(a_2:Duty)(r:Bool)(h:LZ iT a_2=some r):bz Vn Tryz.f191 [false,false] 0 (HO (iT,a_2)) (HP r):=by
 show Run _ _ (ZP (iT,a_2) r) [.code ZQ] _
 refine rI 9 [(0,ae iT),(1,.iptr (ae a_2) 0)] [] 1 ?_
 unfold LZ at h
 refine cq 14 [3] [B (iT.Clause==a_2.Clause)] 129 ?_
 obtain rfl:=Option.some.inj h
 exact rP [B (iT.Clause==a_2.Clause)]
theorem T1 {G:Go.Ln.Ground}:aP Tryz.prog G 191 FK:=gT 2 0 bC cd Tryz.func191 (fun a r h=>V7 a.1 a.2 r h)
noncomputable def CC:((List Duty)×Duty)→List V:=cA (fj ae) (oA (fun x:Duty=>(.fn 191 [.iptr (ae x) 0]:V)))
noncomputable def CD (r:Int):V×List V:=(I r,[])
noncomputable def zQ:Ent:=bm [false,false] CC CD fun x=>Fo x.1 x.2
theorem Yh {s_1:List Duty}{f_2:Duty}{r}(h:Fo s_1 f_2=some r):zQ.F (CC (s_1,f_2))=some (CD r):=aG (br (bR dW) (aH (sU dW))) h
noncomputable def PV:Code:=aD Tryz.f138
noncomputable def IM:Env:=bT Tryz.prog [(191,FK)]
noncomputable def PU (x:(List Duty)×Duty)(r:Int):St→Prop:=QF IM Tryz.f138 [false,false] (CC x) (CD r)
theorem KW (s_1:List Duty)(f_2:Duty):ci IM 0 (PU (s_1,f_2)) (cL (cL (cR (cL (cR PV))))) 0 (sb s_1 f_2) (fun u=>(sT 19 [] [] 1)) fun x3=>(sT 19 [(0,.isl false (s_1.map ae)),(1,.fn 191 [.iptr (ae f_2) 0]),(7,I (len s_1)),(8,I x3)] [] 1):=dY (xI s_1 f_2) fun {Q K} hK self ih x3 y h hr hn=>by
 unfold mf at h
 refine cq 5 [9] [B (decide (x3<(len s_1)))] 17 ?_
 refine sq h ?_ ?_<;>intro h
 ·refine aq 1 ?_
  refine cq 12 [5,11,12,13] [I x3,.fn 191 [.iptr (ae f_2) 0],.isl false (s_1.map ae),I x3] 97 ?_
  obtain⟨e4,he4,h⟩:=bS h
  refine oq 113 (.iptr (ae e4) 0) rfl (ap rfl rfl rfl (aY rfl rfl rfl rfl he4)) ?_
  refine cq 1 [15] [ae e4] 129 ?_
  obtain⟨r5,hr5,h⟩:=bS h
  refine oq 145 (B r5) rfl (cP (ZO hr5)) ?_
  refine aq 1 ?_
  refine sq h ?_ ?_<;>intro h
  ·refine cq 5 [4] [I x3] 177 ?_
   exact bW rfl (hr _ (aj h) _ (qp [I x3]))
  ·refine aq 1 ?_
   refine cq 5 [8] [I (au (x3+1))] 177 ?_
   refine cW ?_
   exact rf [0,1,7,8] [] (ih _ _ h hr hn :)
 ·refine aq 1 ?_
  exact rf [] [] (hn _ (aj h) :) (hk:=hK)
theorem S8 (s_1:List Duty)(f_2:Duty)(r:Int)(h:Fo s_1 f_2=some r):bz IM Tryz.f138 [false,false] 0 (CC (s_1,f_2)) (CD r):=by
 show Run _ _ (PU (s_1,f_2) r) [.code PV] _
 refine rI 19 [(0,.isl false (s_1.map ae)),(1,.fn 191 [.iptr (ae f_2) 0])] [] 1 ?_
 unfold Fo at h
 refine cq 8 [6] [.isl false (s_1.map ae)] 33 ?_
 refine oq 49 (I (len s_1)) rfl (bd rfl rfl rfl (bw rfl)) ?_
 refine cq 3 [8] [I (0)] 65 ?_
 obtain⟨y6,hy6,hy61,hy62⟩:=bJ h
 refine bM rfl ?_
 refine rf [0,1,7,8] [] (KW s_1 f_2 rfl 0 _ hy6 (fun r' e st hq=>by rw[hy61 r' e] at hq;exact hq) fun u6 hu=>?_)
 replace h:=hy62 u6 hu
 refine cq 4 [4] [I (-1)] 17 ?_
 obtain rfl:=Option.some.inj h
 exact rP [I (-1)]
theorem PW {G:Go.Ln.Ground}:aP Tryz.prog G 138 zQ:=gT 2 0 (aL T1 bC) cd Tryz.func138 (fun a r h=>S8 a.1 a.2 r h)
noncomputable def Co:((List Duty)×Duty)→List V:=cA (fj ae) (oA (fun x:Duty=>(.fn 191 [.iptr (ae x) 0]:V)))
noncomputable def Cp (r:Bool):V×List V:=(B r,[])
noncomputable def zL:Ent:=bm [false,false] Co Cp fun x=>Fj x.1 x.2
theorem X4 {s_1:List Duty}{f_2:Duty}{r}(h:Fj s_1 f_2=some r):zL.F (Co (s_1,f_2))=some (Cp r):=aG (br (bR dW) (aH (sU dW))) h
noncomputable def X6:Code:=aD Tryz.f70
noncomputable def PH:Env:=bT Tryz.prog [(138,zQ)]
noncomputable def X5 (x:(List Duty)×Duty)(r:Bool):St→Prop:=QF PH Tryz.f70 [false,false] (Co x) (Cp r)
theorem S2 (s_1:List Duty)(f_2:Duty)(r:Bool)(h:Fj s_1 f_2=some r):bz PH Tryz.f70 [false,false] 0 (Co (s_1,f_2)) (Cp r):=by
 show Run _ _ (X5 (s_1,f_2) r) [.code X6] _
 refine rI 9 [(0,.isl false (s_1.map ae)),(1,.fn 191 [.iptr (ae f_2) 0])] [] 1 ?_
 unfold Fj at h
 refine cq 8 [5,6] [.isl false (s_1.map ae),.fn 191 [.iptr (ae f_2) 0]] 49 ?_
 obtain⟨r3,hr3,h⟩:=bS h
 refine oq 65 (I r3) rfl (cG rfl rfl (cY rfl rfl rfl (cy (dw rfl) (cy (Ks (dX (iX rfl) ly)) dP)) (Yh hr3) (.inr rfl) eh rfl rfl rfl)) ?_
 refine cq 3 [4] [B (decide (r3≥0))] 97 ?_
 obtain rfl:=Option.some.inj h
 exact rP [B (decide (r3≥0))]
theorem PI {G:Go.Ln.Ground}:aP Tryz.prog G 70 zL:=gT 2 0 (aL PW bC) cd Tryz.func70 (fun a r h=>S2 a.1 a.2 r h)
noncomputable def HM:(Contract×State×Int)→List V:=cA aM (cA bV (oA I))
noncomputable def HN (r:Bool):V×List V:=(B r,[])
noncomputable def FJ:Ent:=bm [false,false,false] HM HN fun x=>Jn x.1 x.2.1 x.2.2
theorem ZN {c_1:Contract}{s_2:State}{i_3:Int}{r}(h:Jn c_1 s_2 i_3=some r):FJ.F (HM (c_1,s_2,i_3))=some (HN r):=aG (br ba (br dj (aH bZ))) h
noncomputable def je:Code:=aD Tryz.f132
noncomputable def pt:Env:=bT Tryz.prog [(86,ij),(190,FH),(70,zL),(126,pR)]
noncomputable def gn (x:Contract×State×Int)(r:Bool):St→Prop:=QF pt Tryz.f132 [false,false,false] (HM x) (HN r)
theorem V6 (c_1:Contract)(s_2:State)(i_3:Int)(r:Bool)(h:Jn c_1 s_2 i_3=some r):bz pt Tryz.f132 [false,false,false] 0 (HM (c_1,s_2,i_3)) (HN r):=by
 show Run _ _ (gn (c_1,s_2,i_3) r) [.code je] _
 refine rI 114 [(0,aa c_1),(1,ai s_2),(2,I i_3)] [] 1 ?_
 unfold Jn at h
 refine ck 11 [3,4,9,10] [] [1,17] [] [.hp 1 0 [] 2 0 0,.hp 17 0 [] 5 0 0,.isl false (s_2.Duties.map ae),I i_3] [some ⟨0,2,[aa c_1]⟩,some ⟨0,5,[ai s_2]⟩] 97 (by kernel_rfl) ?_
 obtain⟨e4,he4,h⟩:=bS h
 refine oq 113 (.iptr (ae e4) 0) rfl (ap rfl rfl rfl (aY rfl rfl rfl rfl he4)) ?_
 refine ck 11 [7,14,16] [] [129] [] [.hp 129 0 [] 4 0 0,I e4.Clause,.isl false (c_1.Clauses.map an)] [some ⟨0,4,[ae e4]⟩] 225 (by kernel_rfl) ?_
 refine oq 241 (I (len c_1.Clauses)) rfl (bd rfl rfl rfl (bw rfl)) ?_
 refine cq 1 [18] [I (au ((len c_1.Clauses) - 1))] 257 ?_
 obtain⟨r5,hr5,h⟩:=bS h
 refine oq 273 (B r5) rfl (cP (hZ hr5)) ?_
 refine cq 2 [21] [B (!r5)] 305 ?_
 obtain⟨y6,hy6,hy61,hy62⟩:=bJ h
 have j6:∀u6,y6=.inr u6→Run pt 0 (gn (c_1,s_2,i_3) r) (.code (cR (cL (cR (cR je))))::.code (cR (cR (cR je)))::[]) (sT 114 [(2,I i_3),(3,.hp 1 0 [] 2 0 0),(4,.hp 2 0 [] 5 0 0),(7,.hp 3 0 [] 4 0 0),(38,B u6)] [⟨0,2,[aa c_1]⟩,⟨0,5,[ai s_2]⟩,⟨0,4,[ae e4]⟩] 4):=by
  intro u6 hu
  replace h:=hy62 u6 hu
  refine sq h ?_ ?_<;>intro h
  ·refine cq 4 [6] [B false] 20 ?_
   obtain rfl:=Option.some.inj h
   exact rP [B false]
  ·refine aq 1 ?_
   refine aq 2 ?_
   refine eB [0,1,0,4,0,16,0,64,240,496,1008,2044,4095,8191,16383,32767,65535,131071,262143,524287,1048575,2097151,4194303,8388607,16777215,8388607,41943039,8388607,142606335,511705087,1048575999,2122317823,4294967295,8589934591,17179869183] rfl (by decide +kernel) ?_
   refine dq [3] [] (.hp 3 0 [] 4 0 2) rfl (ay rfl rfl rfl) ?_
   refine dq [3] [] (I e4.Due) rfl (bb rfl rfl) ?_
   refine dq [3] [] (.hp 3 0 [] 4 0 1) rfl (ay rfl rfl rfl) ?_
   refine dq [3] [] (I e4.Since) rfl (bb rfl rfl) ?_
   refine dq [1] [] (.hp 1 0 [] 2 0 1) rfl (ay rfl rfl rfl) ?_
   refine dq [1] [] (.isl false (c_1.Clauses.map an)) rfl (bb rfl rfl) ?_
   refine dq [3] [] (.hp 3 0 [] 4 0 0) rfl (ay rfl rfl rfl) ?_
   refine dq [3] [] (I e4.Clause) rfl (bb rfl rfl) ?_
   obtain⟨e7,he7,h⟩:=bS h
   refine dq [] [] (.iptr (ar e7) 0) rfl (ap rfl rfl rfl (aY rfl rfl rfl rfl he7)) ?_
   refine dq [] [] (.iptr (ar e7) 10) rfl (ay rfl rfl rfl) ?_
   refine dq [] [] (I e7.Within) rfl (bb rfl rfl) ?_
   refine dk 3 [52,51,50] [B (e4.Due != (au (e4.Since+e7.Within))),B (e4.Due != (au (e4.Since+e7.Within))),I (au (e4.Since+e7.Within))] ?_
   obtain⟨y8,hy8,hy81,hy82⟩:=bJ h
   have j8:∀u8,y8=.inr u8→Run pt 0 (gn (c_1,s_2,i_3) r) (.code (cR (cL (cR (cR (cR je)))))::.code (cR (cR (cR (cR je))))::[]) (sT 114 [(2,I i_3),(3,.hp 1 0 [] 2 0 0),(4,.hp 2 0 [] 5 0 0),(7,.hp 3 0 [] 4 0 0),(73,B u8)] [⟨0,2,[aa c_1]⟩,⟨0,5,[ai s_2]⟩,⟨0,4,[ae e4]⟩] 4):=by
    intro u8 hu
    replace h:=hy82 u8 hu
    refine sq h ?_ ?_<;>intro h
    ·refine cq 4 [6] [B false] 20 ?_
     obtain rfl:=Option.some.inj h
     exact rP [B false]
    ·refine aq 1 ?_
     refine cq 6 [74,76] [aa c_1,I e4.Clause] 52 ?_
     obtain⟨r9,hr9,h⟩:=bS h
     refine oq 68 (B r9) rfl (cP (ZH hr9)) ?_
     refine cq 2 [79] [B (!r9)] 100 ?_
     obtain⟨y10,hy10,hy101,hy102⟩:=bJ h
     have j10:∀u10,y10=.inr u10→Run pt 0 (gn (c_1,s_2,i_3) r) (.code (cR (cL (cR (cR (cR (cR je))))))::.code (cR (cR (cR (cR (cR je)))))::[]) (sT 114 [(4,.hp 1 0 [] 5 0 0),(7,.hp 2 0 [] 4 0 0),(86,B u10)] [⟨0,5,[ai s_2]⟩,⟨0,4,[ae e4]⟩] 3):=by
      intro u10 hu
      replace h:=hy102 u10 hu
      refine sq h ?_ ?_<;>intro h
      ·refine cq 4 [6] [B false] 19 ?_
       obtain rfl:=Option.some.inj h
       exact rP [B false]
      ·refine aq 1 ?_
       refine cq 12 [88,89] [I e4.Status,B (e4.Status==1)] 67 ?_
       refine sq h ?_ ?_<;>intro h
       ·refine cq 8 [96] [B (decide (e4.Due≥s_2.Day))] 163 ?_
        obtain⟨u11,hu11,h⟩:=lJ h
        have j11:Run pt 0 (gn (c_1,s_2,i_3) r) (.code (cR (cL (cR (cL (cR (cL (cR (cR (cR (cR (cR je)))))))))))::.blk 0::.code (cR (cR (cR (cR (cR (cR je))))))::[]) (sT 114 [(6,B u11)] [] 1):=by
         obtain rfl:=Option.some.inj h
         exact rP [B u11]
        replace h:=hu11
        clear hu11
        refine sp 96 h rfl ?_ ?_<;>intro h
        ·refine cq 6 [6] [B (!s_2.Over)] 243 ?_
         subst h
         exact rf [6] [] (j11 :)
        ·refine cq 6 [6] [B false] 243 ?_
         subst h
         exact rf [6] [] (j11 :)
       ·refine cq 5 [101] [B (e4.Status==2)] 99 ?_
        refine sq h ?_ ?_<;>intro h
        ·refine cq 4 [6] [B true] 115 ?_
         obtain rfl:=Option.some.inj h
         exact rP [B true]
        ·refine cq 5 [103] [B (e4.Status==3)] 131 ?_
         refine sq h ?_ ?_<;>intro h
         ·refine cq 9 [6] [B (decide (e4.Due<s_2.Day))] 227 ?_
          obtain rfl:=Option.some.inj h
          exact rP [B (decide (e4.Due<s_2.Day))]
         ·refine cq 5 [110] [B (e4.Status==4)] 163 ?_
          refine sq h ?_ ?_<;>intro h
          ·refine cq 6 [6] [B s_2.Over] 211 ?_
           obtain rfl:=Option.some.inj h
           exact rP [B s_2.Over]
          ·refine aq 1 ?_
           refine cq 5 [6] [B false] 179 ?_
           obtain rfl:=Option.some.inj h
           exact rP [B false]
     have r10:∀r',y10=.inl r'→∀st,gn (c_1,s_2,i_3) r' st→(gn (c_1,s_2,i_3) r) st:=fun r' e st hq=>by rw[hy101 r' e] at hq;exact hq
     replace h:=hy10
     refine sp 79 h rfl ?_ ?_<;>intro h
     ·refine cq 3 [81,82] [.isl false (s_2.Duties.map ae),I i_3] 148 ?_
      obtain⟨s12,hs12,h⟩:=bS h
      refine oy 164 (.isl false (s12.map ae)) rfl (gq rfl rfl rfl rfl (Kv rfl rfl (fun y=>(FW y).1) rfl rfl hs12)) ?_
      refine cq 1 [84] [.fn 191 [.hp 3 0 [] 4 0 0]] 180 ?_
      obtain⟨r13,hr13,h⟩:=bS h
      refine oy 196 (B r13) rfl (cG rfl rfl (cY rfl rfl rfl (cy (dw rfl) (cy (Ks (dX (wD (path:=[]) rfl rfl aZ rfl rfl) ly)) dP)) (X4 hr13) (.inl rfl) eh rfl rfl rfl)) ?_
      refine cq 2 [86] [B r13] 212 ?_
      exact rf [4,7,86] [2,3] (j10 _ (aj h) :)
     ·refine cq 8 [86] [B false] 212 ?_
      exact rf [4,7,86] [2,3] (j10 _ (aj h) :)
   have r8:∀r',y8=.inl r'→∀st,gn (c_1,s_2,i_3) r' st→(gn (c_1,s_2,i_3) r) st:=fun r' e st hq=>by rw[hy81 r' e] at hq;exact hq
   replace h:=hy8
   refine sp 52 h rfl ?_ ?_<;>intro h
   ·refine dk 21 [73,72,71,70,69,68,67,66,65,64,63,62,61,60,59,58,57,56,55,54,53] [B true,.und,.und,.und,.und,.und,.und,.und,.und,.und,.und,.und,.und,.und,.und,B true,B true,.und,.und,.und,.und] ?_
    refine de 564 rfl rfl ?_
    exact rf [2,3,4,7,73] [1,2,3] (j8 _ (aj h) :)
   ·refine dy [3] [] (.hp 3 0 [] 4 0 2) rfl (ay rfl rfl rfl) ?_
    refine dy [3] [] (I e4.Due) rfl (bb rfl rfl) ?_
    obtain⟨r14,hr14,h⟩:=bS h
    refine dy [] [] (B r14) rfl (cP (qM hr14)) ?_ (dV rfl rfl rfl rfl (cy (dw rfl) dP) (qM hr14) (.inr rfl) rfl)
    refine dk 3 [58,57,56] [B (!r14),B (!r14),B (!r14)] ?_
    obtain⟨y15,hy15,hy151,hy152⟩:=bL h
    have j15:∀u15,y15=.inr u15→Run pt 0 (gn (c_1,s_2,i_3) r) (.code (cR (cL (cR (cR (cR je)))))::.code (cR (cR (cR (cR je))))::[]) (sT 114 [(2,I i_3),(3,.hp 1 0 [] 2 0 0),(4,.hp 2 0 [] 5 0 0),(7,.hp 3 0 [] 4 0 0),(73,B u15)] [⟨0,2,[aa c_1]⟩,⟨0,5,[ai s_2]⟩,⟨0,4,[ae e4]⟩] 4):=by
     intro u15 hu
     replace h:=hy152 u15 hu
     exact rf [2,3,4,7,73] [1,2,3] (j8 _ (aj h) :)
    have r15:∀r',y15=.inl r'→∀st,gn (c_1,s_2,i_3) r' st→(gn (c_1,s_2,i_3) r) st:=fun r' e st hq=>r8 r' (hy151 r' e) st hq
    replace h:=hy15
    refine sp 58 h rfl ?_ ?_<;>intro h
    ·refine dk 15 [73,72,71,70,69,68,67,66,65,64,63,62,61,60,59] [B true,.und,.und,.und,.und,.und,.und,.und,.und,.und,.und,.und,.und,.und,.und] ?_
     refine de 564 rfl rfl ?_
     exact rf [2,3,4,7,73] [1,2,3] (j15 _ (aj h) :)
    ·refine dk 3 [61,60,59] [B (decide (i_3>0)),B (decide (i_3>0)),I i_3] ?_
     obtain⟨y16,hy16,hy161,hy162⟩:=bL h
     have j16:∀u16,y16=.inr u16→Run pt 0 (gn (c_1,s_2,i_3) r) (.code (cR (cL (cR (cR (cR je)))))::.code (cR (cR (cR (cR je))))::[]) (sT 114 [(2,I i_3),(3,.hp 1 0 [] 2 0 0),(4,.hp 2 0 [] 5 0 0),(7,.hp 3 0 [] 4 0 0),(73,B u16)] [⟨0,2,[aa c_1]⟩,⟨0,5,[ai s_2]⟩,⟨0,4,[ae e4]⟩] 4):=by
      intro u16 hu
      replace h:=hy162 u16 hu
      exact rf [2,3,4,7,73] [1,2,3] (j15 _ (aj h) :)
     have r16:∀r',y16=.inl r'→∀st,gn (c_1,s_2,i_3) r' st→(gn (c_1,s_2,i_3) r) st:=fun r' e st hq=>r15 r' (hy161 r' e) st hq
     replace h:=hy16
     refine sp 61 h rfl ?_ ?_<;>intro h
     ·refine dy [3] [] (.hp 3 0 [] 4 0 1) rfl (ay rfl rfl rfl) ?_
      refine dy [3] [] (I e4.Since) rfl (bb rfl rfl) ?_
      refine dy [2] [] (.hp 2 0 [] 5 0 2) rfl (ay rfl rfl rfl) ?_
      refine dy [2] [] (.isl false (s_2.Duties.map ae)) rfl (bb rfl rfl) ?_
      refine dk 2 [67,66] [I (au (i_3 - 1)),I i_3] ?_
      obtain⟨e17,he17,h⟩:=bS h
      refine dy [] [] (.iptr (ae e17) 0) rfl (ap rfl rfl rfl (aY rfl rfl rfl rfl he17)) ?_
      refine dy [] [] (.iptr (ae e17) 1) rfl (ay rfl rfl rfl) ?_
      refine dy [] [] (I e17.Since) rfl (bb rfl rfl) ?_
      refine dk 3 [73,72,71] [B (decide (e4.Since<e17.Since)),B (decide (e4.Since<e17.Since)),B (decide (e4.Since<e17.Since))] ?_
      refine de 564 rfl rfl ?_
      exact rf [2,3,4,7,73] [1,2,3] (j16 _ (aj h) :)
     ·refine dk 12 [73,72,71,70,69,68,67,66,65,64,63,62] [B false,B false,.und,.und,.und,.und,.und,.und,.und,.und,.und,.und] ?_
      refine de 564 rfl rfl ?_
      exact rf [2,3,4,7,73] [1,2,3] (j16 _ (aj h) :)
 have r6:∀r',y6=.inl r'→∀st,gn (c_1,s_2,i_3) r' st→(gn (c_1,s_2,i_3) r) st:=fun r' e st hq=>by rw[hy61 r' e] at hq;exact hq
 replace h:=hy6
 refine sp 21 h rfl ?_ ?_<;>intro h
 ·refine cq 18 [38] [B true] 577 ?_
  exact rf [2,3,4,7,38] [1,17,129] (j6 _ (aj h) :)
 ·refine cq 4 [23,25] [.isl false (c_1.Clauses.map an),I e4.Clause] 369 ?_
  obtain⟨e18,he18,h⟩:=bS h
  refine oy 385 (.iptr (ar e18) 0) rfl (ap rfl rfl rfl (aY rfl rfl rfl rfl he18)) ?_
  refine cq 5 [31] [B (e18.Kind != 1)] 465 ?_
  obtain⟨y19,hy19,hy191,hy192⟩:=bL h
  have j19:∀u19,y19=.inr u19→Run pt 0 (gn (c_1,s_2,i_3) r) (.code (cR (cL (cR (cR je))))::.code (cR (cR (cR je)))::[]) (sT 114 [(2,I i_3),(3,.hp 1 0 [] 2 0 0),(4,.hp 2 0 [] 5 0 0),(7,.hp 3 0 [] 4 0 0),(38,B u19)] [⟨0,2,[aa c_1]⟩,⟨0,5,[ai s_2]⟩,⟨0,4,[ae e4]⟩] 4):=by
   intro u19 hu
   replace h:=hy192 u19 hu
   exact rf [2,3,4,7,38] [1,2,3] (j6 _ (aj h) :)
  have r19:∀r',y19=.inl r'→∀st,gn (c_1,s_2,i_3) r' st→(gn (c_1,s_2,i_3) r) st:=fun r' e st hq=>r6 r' (hy191 r' e) st hq
  replace h:=hy19
  refine sp 31 h rfl ?_ ?_<;>intro h
  ·refine cq 8 [38] [B true] 577 ?_
   exact rf [2,3,4,7,38] [1,17,129] (j19 _ (aj h) :)
  ·refine cq 4 [33,35] [I e4.Since,I s_2.Day] 529 ?_
   obtain⟨r20,hr20,h⟩:=bS h
   refine oy 545 (B r20) rfl (cP (hZ hr20)) ?_
   refine cq 3 [38] [B (!r20)] 577 ?_
   exact rf [2,3,4,7,38] [1,17,129] (j19 _ (aj h) :)
theorem T0 {G:Go.Ln.Ground}:aP Tryz.prog G 132 FJ:=gT 3 0 (aL iY (aL TY (aL PI (aL tQ bC)))) cd Tryz.func132 (fun a r h=>V6 a.1 a.2.1 a.2.2 r h)
noncomputable def HC:Int→List V:=oA I
noncomputable def HD (r:Bool):V×List V:=(B r,[])
noncomputable def FF:Ent:=bm [false] HC HD fun x=>LY x
theorem ZB {x_1:Int}{r}(h:LY x_1=some r):FF.F (HC x_1)=some (HD r):=aG (aH bZ) h
noncomputable def ZD:Code:=aD Tryz.f135
noncomputable def Vj:Env:=bT Tryz.prog [(86,ij)]
noncomputable def ZC (x:Int)(r:Bool):St→Prop:=QF Vj Tryz.f135 [false] (HC x) (HD r)
theorem V1 (x_1:Int)(r:Bool)(h:LY x_1=some r):bz Vj Tryz.f135 [false] 0 (HC x_1) (HD r):=by
 show Run _ _ (ZC x_1 r) [.code ZD] _
 refine rI 5 [(0,I x_1)] [] 1 ?_
 unfold LY at h
 refine cq 7 [3] [I x_1] 33 ?_
 obtain⟨r2,hr2,h⟩:=bS h
 refine oq 49 (B r2) rfl (cP (hZ hr2)) ?_
 refine cq 2 [2] [B r2] 65 ?_
 obtain rfl:=Option.some.inj h
 exact rP [B r2]
theorem TW {G:Go.Ln.Ground}:aP Tryz.prog G 135 FF:=gT 1 0 (aL iY bC) cd Tryz.func135 (fun a r h=>V1 a r h)
noncomputable def HX:Int→List V:=oA I
noncomputable def HY (r:Bool):V×List V:=(B r,[])
noncomputable def FO:Ent:=bm [false] HX HY fun x=>Jr x
theorem ZW {b_1:Int}{r}(h:Jr b_1=some r):FO.F (HX b_1)=some (HY r):=aG (aH bZ) h
noncomputable def ZY:Code:=aD Tryz.f134
noncomputable def Vq:Env:=bT Tryz.prog [(135,FF)]
noncomputable def ZX (x:Int)(r:Bool):St→Prop:=QF Vq Tryz.f134 [false] (HX x) (HY r)
theorem Wb (b_1:Int)(r:Bool)(h:Jr b_1=some r):bz Vq Tryz.f134 [false] 0 (HX b_1) (HY r):=by
 show Run _ _ (ZX b_1 r) [.code ZY] _
 refine rI 6 [(0,I b_1)] [] 1 ?_
 unfold Jr at h
 refine cq 7 [3] [I b_1] 33 ?_
 obtain⟨r2,hr2,h⟩:=bS h
 refine oq 49 (B r2) rfl (cP (ZB hr2)) ?_
 refine cq 3 [2] [B (!r2)] 81 ?_
 obtain rfl:=Option.some.inj h
 exact rP [B (!r2)]
theorem T6 {G:Go.Ln.Ground}:aP Tryz.prog G 134 FO:=gT 1 0 (aL TW bC) cd Tryz.func134 (fun a r h=>Wb a r h)
noncomputable def CE:((List Int)×Unit)→List V:=cA (fj I) (oA (fun x:Unit=>(.fn 134 []:V)))
noncomputable def CF (r:Int):V×List V:=(I r,[])
noncomputable def zR:Ent:=bm [false,false] CE CF fun x=>Fp x.1 x.2
theorem Yi {s_1:List Int}{f_2:Unit}{r}(h:Fp s_1 f_2=some r):zR.F (CE (s_1,f_2))=some (CF r):=aG (br (bR bZ) (aH (L8 ))) h
noncomputable def PY:Code:=aD Tryz.f192
noncomputable def IO:Env:=bT Tryz.prog [(134,FO)]
noncomputable def PX (x:(List Int)×Unit)(r:Int):St→Prop:=QF IO Tryz.f192 [false,false] (CE x) (CF r)
theorem KX (s_1:List Int)(f_2:Unit):ci IO 0 (PX (s_1,f_2)) (cL (cL (cR (cL (cR PY))))) 0 (sd s_1 f_2) (fun u=>(sT 19 [] [] 1)) fun x3=>(sT 19 [(0,.isl false (s_1.map I)),(1,.fn 134 []),(7,I (len s_1)),(8,I x3)] [] 1):=dY (xJ s_1 f_2) fun {Q K} hK self ih x3 y h hr hn=>by
 unfold mg at h
 refine cq 5 [9] [B (decide (x3<(len s_1)))] 17 ?_
 refine sq h ?_ ?_<;>intro h
 ·refine aq 1 ?_
  refine cq 12 [5,11,12,13] [I x3,.fn 134 [],.isl false (s_1.map I),I x3] 97 ?_
  obtain⟨e4,he4,h⟩:=bS h
  refine oq 113 (.iptr (I e4) 0) rfl (ap rfl rfl rfl (aY rfl rfl rfl rfl he4)) ?_
  refine cq 1 [15] [I e4] 129 ?_
  obtain⟨r5,hr5,h⟩:=bS h
  refine oq 145 (B r5) rfl (cP (ZW hr5)) ?_
  refine aq 1 ?_
  refine sq h ?_ ?_<;>intro h
  ·refine cq 5 [4] [I x3] 177 ?_
   exact bW rfl (hr _ (aj h) _ (qp [I x3]))
  ·refine aq 1 ?_
   refine cq 5 [8] [I (au (x3+1))] 177 ?_
   refine cW ?_
   exact rf [0,1,7,8] [] (ih _ _ h hr hn :)
 ·refine aq 1 ?_
  exact rf [] [] (hn _ (aj h) :) (hk:=hK)
theorem S9 (s_1:List Int)(f_2:Unit)(r:Int)(h:Fp s_1 f_2=some r):bz IO Tryz.f192 [false,false] 0 (CE (s_1,f_2)) (CF r):=by
 show Run _ _ (PX (s_1,f_2) r) [.code PY] _
 refine rI 19 [(0,.isl false (s_1.map I)),(1,.fn 134 [])] [] 1 ?_
 unfold Fp at h
 refine cq 8 [6] [.isl false (s_1.map I)] 33 ?_
 refine oq 49 (I (len s_1)) rfl (bd rfl rfl rfl (bw rfl)) ?_
 refine cq 3 [8] [I (0)] 65 ?_
 obtain⟨y6,hy6,hy61,hy62⟩:=bJ h
 refine bM rfl ?_
 refine rf [0,1,7,8] [] (KX s_1 f_2 rfl 0 _ hy6 (fun r' e st hq=>by rw[hy61 r' e] at hq;exact hq) fun u6 hu=>?_)
 replace h:=hy62 u6 hu
 refine cq 4 [4] [I (-1)] 17 ?_
 obtain rfl:=Option.some.inj h
 exact rP [I (-1)]
theorem PZ {G:Go.Ln.Ground}:aP Tryz.prog G 192 zR:=gT 2 0 (aL T6 bC) cd Tryz.func192 (fun a r h=>S9 a.1 a.2 r h)
noncomputable def Cq:((List Int)×Unit)→List V:=cA (fj I) (oA (fun x:Unit=>(.fn 134 []:V)))
noncomputable def Cr (r:Bool):V×List V:=(B r,[])
noncomputable def zM:Ent:=bm [false,false] Cq Cr fun x=>Fk x.1 x.2
theorem X7 {s_1:List Int}{f_2:Unit}{r}(h:Fk s_1 f_2=some r):zM.F (Cq (s_1,f_2))=some (Cr r):=aG (br (bR bZ) (aH (L8 ))) h
noncomputable def X9:Code:=aD Tryz.f133
noncomputable def PJ:Env:=bT Tryz.prog [(192,zR)]
noncomputable def X8 (x:(List Int)×Unit)(r:Bool):St→Prop:=QF PJ Tryz.f133 [false,false] (Cq x) (Cr r)
theorem S3 (s_1:List Int)(f_2:Unit)(r:Bool)(h:Fk s_1 f_2=some r):bz PJ Tryz.f133 [false,false] 0 (Cq (s_1,f_2)) (Cr r):=by
 show Run _ _ (X8 (s_1,f_2) r) [.code X9] _
 refine rI 9 [(0,.isl false (s_1.map I)),(1,.fn 134 [])] [] 1 ?_
 unfold Fk at h
 refine cq 8 [5,6] [.isl false (s_1.map I),.fn 134 []] 49 ?_
 obtain⟨r3,hr3,h⟩:=bS h
 refine oq 65 (I r3) rfl (cP (Yi hr3)) ?_
 refine cq 3 [4] [B (decide (r3≥0))] 97 ?_
 obtain rfl:=Option.some.inj h
 exact rP [B (decide (r3≥0))]
theorem PK {G:Go.Ln.Ground}:aP Tryz.prog G 133 zM:=gT 2 0 (aL PZ bC) cd Tryz.func133 (fun a r h=>S3 a.1 a.2 r h)
noncomputable def HT:(Contract×State)→List V:=cA aM (oA bV)
noncomputable def HU (r:Bool):V×List V:=(B r,[])
noncomputable def FM:Ent:=bm [false,false] HT HU fun x=>Jp x.1 x.2
theorem ZS {c_1:Contract}{s_2:State}{r}(h:Jp c_1 s_2=some r):FM.F (HT (c_1,s_2))=some (HU r):=aG (br ba (aH dj)) h
noncomputable def oo:Code:=aD Tryz.f66
noncomputable def tR:Env:=bT Tryz.prog [(125,wV),(126,pR),(132,FJ),(133,zM),(131,FR),(127,FL),(128,zN)]
noncomputable def jQ (x:Contract×State)(r:Bool):St→Prop:=QF tR Tryz.f66 [false,false] (HT x) (HU r)
theorem Na (c_1:Contract)(s_2:State):ci tR 0 (jQ (c_1,s_2)) (cL (cL (cR (cL (cR (cR (cR (cR oo)))))))) 0 (oQ c_1 s_2) (fun u=>(sT 60 [(3,.hp 1 0 [] 5 0 0)] [⟨0,5,[ai s_2]⟩] 2)) fun x7=>(sT 60 [(2,.hp 1 0 [] 2 0 0),(3,.hp 2 0 [] 5 0 0),(46,I (len s_2.Duties)),(47,I x7)] [⟨0,2,[aa c_1]⟩,⟨0,5,[ai s_2]⟩] 3):=dY (Ef c_1 s_2) fun {Q K} hK self ih x7 y h hr hn=>by
 unfold lQ at h
 refine cq 5 [48] [B (decide (x7<(len s_2.Duties)))] 19 ?_
 refine sq h ?_ ?_<;>intro h
 ·refine aq 1 ?_
  refine cq 12 [50,51,52] [aa c_1,ai s_2,I x7] 99 ?_
  obtain⟨r8,hr8,h⟩:=bS h
  refine oq 115 (B r8) rfl (cP (ZN hr8)) ?_
  refine cq 2 [54] [B (!r8)] 131 ?_
  refine sq h ?_ ?_<;>intro h
  ·refine cq 4 [4] [B false] 147 ?_
   exact bW rfl (hr _ (aj h) _ (qp [B false]))
  ·refine aq 1 ?_
   refine cq 5 [47] [I (au (x7+1))] 163 ?_
   refine cW ?_
   exact rf [2,3,46,47] [1,2] (ih _ _ h hr hn :)
 ·refine aq 1 ?_
  exact rf [3] [2] (hn _ (aj h) :) (hk:=hK)
theorem V9 (c_1:Contract)(s_2:State)(r:Bool)(h:Jp c_1 s_2=some r):bz tR Tryz.f66 [false,false] 0 (HT (c_1,s_2)) (HU r):=by
 show Run _ _ (jQ (c_1,s_2) r) [.code oo] _
 refine rI 60 [(0,aa c_1),(1,ai s_2)] [] 1 ?_
 unfold Jp at h
 refine ck 9 [2,3,7] [] [1,17] [] [.hp 1 0 [] 2 0 0,.hp 17 0 [] 5 0 0,aa c_1] [some ⟨0,2,[aa c_1]⟩,some ⟨0,5,[ai s_2]⟩] 65 (by kernel_rfl) ?_
 obtain⟨r3,hr3,h⟩:=bS h
 refine oq 81 (.hs 65 0 [] 1 0 (r3.map str).length) rfl (cP (Vg hr3)) ?_
 refine ck 1 [5] [] [81] [] [.hp 81 0 [] 1 0 0] [some ⟨0,1,[.isl true []]⟩] 97 (by kernel_rfl) ?_
 refine eD 81 [.usl 1 (([]).map str)] rfl rfl (aC (.nil _) dM) ?_
 refine o0 113 rfl rfl (hI rfl rfl (fN (path:=[]) (pl:=false) (e':=.usl 1 (r3.map str)) (es2':=[.usl 1 (r3.map str)]) rfl (eV rfl (cZ rfl rfl)) rfl rfl rfl aZ rfl rfl rfl rfl rfl eC 2 rfl)) ?_
 refine cq 6 [10] [I s_2.Day] 145 ?_
 obtain⟨r4,hr4,h⟩:=bS h
 refine oq 161 (B r4) rfl (cP (qM hr4)) ?_
 refine cq 2 [13] [B (!r4)] 193 ?_
 obtain⟨y5,hy5,hy51,hy52⟩:=bJ h
 have j5:∀u5,y5=.inr u5→Run tR 0 (jQ (c_1,s_2) r) (.code (cR (cL (cR (cR oo))))::.code (cR (cR (cR oo)))::[]) (sT 60 [(2,.hp 1 0 [] 2 0 0),(3,.hp 2 0 [] 5 0 0),(24,B u5)] [⟨0,2,[aa c_1]⟩,⟨0,5,[ai s_2]⟩] 3):=by
  intro u5 hu
  replace h:=hy52 u5 hu
  refine sq h ?_ ?_<;>intro h
  ·refine cq 4 [4] [B false] 19 ?_
   obtain rfl:=Option.some.inj h
   exact rP [B false]
  ·refine aq 1 ?_
   refine cq 5 [26] [.isl false (s_2.Duties.map ae)] 35 ?_
   refine oq 51 (I (len s_2.Duties)) rfl (bd rfl rfl rfl (bw rfl)) ?_
   refine cq 2 [29] [B (decide ((len s_2.Duties)>24))] 83 ?_
   obtain⟨y6,hy6,hy61,hy62⟩:=bJ h
   have j6:∀u6,y6=.inr u6→Run tR 0 (jQ (c_1,s_2) r) (.code (cR (cL (cR (cR (cR oo)))))::.code (cR (cR (cR (cR oo))))::[]) (sT 60 [(2,.hp 1 0 [] 2 0 0),(3,.hp 2 0 [] 5 0 0),(43,B u6)] [⟨0,2,[aa c_1]⟩,⟨0,5,[ai s_2]⟩] 3):=by
    intro u6 hu
    replace h:=hy62 u6 hu
    refine sq h ?_ ?_<;>intro h
    ·refine cq 4 [4] [B false] 19 ?_
     obtain rfl:=Option.some.inj h
     exact rP [B false]
    ·refine aq 1 ?_
     refine cq 5 [45] [.isl false (s_2.Duties.map ae)] 35 ?_
     refine oq 51 (I (len s_2.Duties)) rfl (bd rfl rfl rfl (bw rfl)) ?_
     refine cq 3 [47] [I (0)] 67 ?_
     obtain⟨y9,hy9,hy91,hy92⟩:=bJ h
     refine bM rfl ?_
     refine rf [2,3,46,47] [1,2] (Na c_1 s_2 rfl 0 _ hy9 (fun r' e st hq=>by rw[hy91 r' e] at hq;exact hq) fun u9 hu=>?_)
     replace h:=hy92 u9 hu
     refine cq 4 [57] [.isl false (s_2.Balances.map I)] 34 ?_
     obtain⟨r10,hr10,h⟩:=bS h
     refine oq 50 (B r10) rfl (cP (X7 hr10)) ?_
     refine cq 3 [4] [B (!r10)] 82 ?_
     obtain rfl:=Option.some.inj h
     exact rP [B (!r10)]
   have r6:∀r',y6=.inl r'→∀st,jQ (c_1,s_2) r' st→(jQ (c_1,s_2) r) st:=fun r' e st hq=>by rw[hy61 r' e] at hq;exact hq
   replace h:=hy6
   refine sp 29 h rfl ?_ ?_<;>intro h
   ·refine cq 15 [43] [B true] 307 ?_
    exact rf [2,3,43] [1,2] (j6 _ (aj h) :)
   ·refine cq 2 [31] [.isl false (s_2.Balances.map I)] 115 ?_
    refine oy 131 (I (len s_2.Balances)) rfl (bd rfl rfl rfl (bw rfl)) ?_
    refine cq 2 [34] [.isl false (c_1.Parties.map str)] 163 ?_
    refine oy 179 (I (len c_1.Parties)) rfl (bd rfl rfl rfl (bw rfl)) ?_
    refine cq 3 [38] [B ((len s_2.Balances) != (len c_1.Parties))] 227 ?_
    obtain⟨y11,hy11,hy111,hy112⟩:=bL h
    have j11:∀u11,y11=.inr u11→Run tR 0 (jQ (c_1,s_2) r) (.code (cR (cL (cR (cR (cR oo)))))::.code (cR (cR (cR (cR oo))))::[]) (sT 60 [(2,.hp 1 0 [] 2 0 0),(3,.hp 2 0 [] 5 0 0),(43,B u11)] [⟨0,2,[aa c_1]⟩,⟨0,5,[ai s_2]⟩] 3):=by
     intro u11 hu
     replace h:=hy112 u11 hu
     exact rf [2,3,43] [1,2] (j6 _ (aj h) :)
    have r11:∀r',y11=.inl r'→∀st,jQ (c_1,s_2) r' st→(jQ (c_1,s_2) r) st:=fun r' e st hq=>r6 r' (hy111 r' e) st hq
    replace h:=hy11
    refine sp 38 h rfl ?_ ?_<;>intro h
    ·refine cq 6 [43] [B true] 307 ?_
     exact rf [2,3,43] [1,2] (j11 _ (aj h) :)
    ·refine cq 2 [40] [.isl false (s_2.Balances.map I)] 259 ?_
     obtain⟨r12,hr12,h⟩:=bS h
     refine oy 275 (I r12) rfl (cP (Z3 hr12)) ?_
     refine cq 3 [43] [B (r12 != 0)] 307 ?_
     exact rf [2,3,43] [1,2] (j11 _ (aj h) :)
 have r5:∀r',y5=.inl r'→∀st,jQ (c_1,s_2) r' st→(jQ (c_1,s_2) r) st:=fun r' e st hq=>by rw[hy51 r' e] at hq;exact hq
 replace h:=hy5
 refine sp 13 h rfl ?_ ?_<;>intro h
 ·refine cq 12 [24] [B true] 369 ?_
  exact rf [2,3,24] [1,17] (j5 _ (aj h) :)
 ·refine cq 2 [15] [.isl false (s_2.Facts.map str)] 225 ?_
  obtain⟨r13,hr13,h⟩:=bS h
  refine oy 241 (B r13) rfl (cP (ZR hr13)) ?_
  refine cq 3 [19] [B (!r13)] 289 ?_
  obtain⟨y14,hy14,hy141,hy142⟩:=bL h
  have j14:∀u14,y14=.inr u14→Run tR 0 (jQ (c_1,s_2) r) (.code (cR (cL (cR (cR oo))))::.code (cR (cR (cR oo)))::[]) (sT 60 [(2,.hp 1 0 [] 2 0 0),(3,.hp 2 0 [] 5 0 0),(24,B u14)] [⟨0,2,[aa c_1]⟩,⟨0,5,[ai s_2]⟩] 3):=by
   intro u14 hu
   replace h:=hy142 u14 hu
   exact rf [2,3,24] [1,2] (j5 _ (aj h) :)
  have r14:∀r',y14=.inl r'→∀st,jQ (c_1,s_2) r' st→(jQ (c_1,s_2) r) st:=fun r' e st hq=>r5 r' (hy141 r' e) st hq
  replace h:=hy14
  refine sp 19 h rfl ?_ ?_<;>intro h
  ·refine cq 6 [24] [B true] 369 ?_
   exact rf [2,3,24] [1,17] (j14 _ (aj h) :)
  ·refine cq 3 [21,22] [.isl false (s_2.Facts.map str),.fn 129 [.hp 81 0 [] 1 0 0]] 337 ?_
   obtain⟨r15,hr15,h⟩:=bS h
   refine oy 353 (B r15) rfl (cG rfl rfl (cY rfl rfl rfl (cy (dw rfl) (cy (Ks (dX (wD (path:=[]) rfl rfl aZ rfl (Vy (cw fb))) ly)) dP)) (Ya hr15) (.inl rfl) eh rfl rfl rfl)) ?_
   refine cq 2 [24] [B r15] 369 ?_
   exact rf [2,3,24] [1,17] (j14 _ (aj h) :)
theorem T4 {G:Go.Ln.Ground}:aP Tryz.prog G 66 FM:=gT 2 0 (aL Jh (aL tQ (aL T0 (aL PK (aL T9 (aL T3 (aL PM bC))))))) cd Tryz.func66 (fun a r h=>V9 a.1 a.2 r h)
noncomputable def Hm:(Contract×State)→List V:=cA aM (oA bV)
noncomputable def Ho (r:Bool):V×List V:=(B r,[])
noncomputable def Ft:Ent:=bm [false,false] Hm Ho fun x=>Gj x.1 x.2
theorem Zp {c_1:Contract}{s_2:State}{r}(h:Gj c_1 s_2=some r):Ft.F (Hm (c_1,s_2))=some (Ho r):=aG (br ba (aH dj)) h
noncomputable def Va:Code:=aD Tryz.f20
noncomputable def MS:Env:=bT Tryz.prog [(65,Ff),(66,FM)]
noncomputable def Hn (x:Contract×State)(r:Bool):St→Prop:=QF MS Tryz.f20 [false,false] (Hm x) (Ho r)
theorem VK (c_1:Contract)(s_2:State)(r:Bool)(h:Gj c_1 s_2=some r):bz MS Tryz.f20 [false,false] 0 (Hm (c_1,s_2)) (Ho r):=by
 show Run _ _ (Hn (c_1,s_2) r) [.code Va] _
 refine rI 12 [(0,aa c_1),(1,ai s_2)] [] 1 ?_
 unfold Gj at h
 refine ck 9 [2,3,5] [] [1,17] [] [.hp 1 0 [] 2 0 0,.hp 17 0 [] 5 0 0,aa c_1] [some ⟨0,2,[aa c_1]⟩,some ⟨0,5,[ai s_2]⟩] 65 (by kernel_rfl) ?_
 obtain⟨r3,hr3,h⟩:=bS h
 refine oq 81 (B r3) rfl (cP (Zo hr3)) ?_
 refine cq 1 [7] [B r3] 97 ?_
 obtain⟨y4,hy4,hy41,hy42⟩:=bJ h
 have j4:∀u4,y4=.inr u4→Run MS 0 (Hn (c_1,s_2) r) (.code (cR (cR Va))::[]) (sT 12 [(4,B u4)] [] 1):=by
  intro u4 hu
  replace h:=hy42 u4 hu
  obtain rfl:=Option.some.inj h
  exact rP [B u4]
 have r4:∀r',y4=.inl r'→∀st,Hn (c_1,s_2) r' st→(Hn (c_1,s_2) r) st:=fun r' e st hq=>by rw[hy41 r' e] at hq;exact hq
 replace h:=hy4
 refine sp 7 h rfl ?_ ?_<;>intro h
 ·refine cq 2 [8,9] [aa c_1,ai s_2] 129 ?_
  obtain⟨r5,hr5,h⟩:=bS h
  refine oy 145 (B r5) rfl (cP (ZS hr5)) ?_
  refine cq 3 [4] [B r5] 177 ?_
  exact rf [4] [] (j4 _ (aj h) :)
 ·refine cq 6 [4] [B false] 177 ?_
  exact rf [4] [] (j4 _ (aj h) :)
theorem Th {G:Go.Ln.Ground}:aP Tryz.prog G 20 Ft:=gT 2 0 (aL So (aL T4 bC)) cd Tryz.func20 (fun a r h=>VK a.1 a.2 r h)
noncomputable def DX:(Condition×(List Int))→List V:=cA bg (oA (uW 1 I))
noncomputable def DZ (r:(List Int)):V×List V:=(.usl 1 (r.map I),[.dead])
noncomputable def AI (cg:(Condition×(List Int))→Option (List Int)):Ent:=bm [false,true] DX DZ cg
theorem Q3 (cg:(Condition×(List Int))→Option (List Int)){x}{r}(h:cg x=some r):(AI cg).F (DX x)=some (DZ r):=aG (br cz (aH (lm bZ))) h
noncomputable def Fz:Ent:=AI (aF mP)
theorem Zt {c_3:Condition}{bn:List Int}{r}(h:Q2 c_3 bn=some r):Fz.F (DX (c_3,bn))=some (DZ r):=Q3 (aF mP) h
noncomputable def M0:Code:=aD Tryz.f156
noncomputable def Hr (cg:(Condition×(List Int))→Option (List Int)):Env:=bT Tryz.prog [(156,(AI cg))]
noncomputable def DY (cg:(Condition×(List Int))→Option (List Int))(x:Condition×(List Int))(r:(List Int)):St→Prop:=QF (Hr cg) Tryz.f156 [false,true] (DX x) (DZ r)
theorem M1 (cg:(Condition×(List Int))→Option (List Int))(c_3:Condition)(bn:List Int):ci (Hr cg) 1 (DY cg (c_3,bn)) (cL (cL (cR (cL (cR (cR M0)))))) 0 (mQ cg c_3 bn) (fun u=>(sO 27 [(1,.hs 2 0 [] 1 0 (u.map I).length)] [none,some ⟨0,1,u.map I⟩] 3)) fun x4=>(sO 27 [(1,.hs 2 0 [] 1 0 (x4.2.map I).length),(16,.isl false (c_3.Parts.map aB)),(17,I (len c_3.Parts)),(18,I x4.1)] [none,some ⟨0,1,x4.2.map I⟩] 3):=dY (D0 cg c_3 bn) fun {Q K} hK self ih x4 y h hr hn=>by
 unfold ku at h
 refine cq 5 [19] [B (decide (x4.1<(len c_3.Parts)))] 19 ?_
 refine sq h ?_ ?_<;>intro h
 ·refine aq 1 ?_
  refine aq 4 ?_
  obtain⟨e5,he5,h⟩:=bS h
  refine oq 35 (.iptr (ah e5) 0) rfl (ap rfl rfl rfl (aY rfl rfl (cr e5) rfl he5)) ?_
  refine ck 2 [6,21] [] [51] [] [.hp 51 0 [] 4 0 0,ah e5] [some ⟨0,4,[.agg [I (0),str ([]),I (0),.isl true []]]⟩] 67 (by kernel_rfl) ?_
  refine eD 51 [.agg [I (0),str ([]),I (0),.usl 4 (([]).map aA)]] rfl rfl (aC (fp (aC (.refl _) (aC (.refl _) (aC (.refl _) (aC (.nil _) dM))))) dM) ?_
  refine ck 5 [22,23] [] [51] [] [ah e5,.hs 2 0 [] 1 0 (x4.2.map I).length] [some ⟨2,4,[ah e5]⟩] 115 (by kernel_rfl) ?_
  obtain⟨r6,hr6,h⟩:=bS h
  refine oq 131 (.hs 115 0 [] 1 0 (r6.map I).length) rfl (cG rfl rfl (cY rfl rfl rfl (cy (dw rfl) (nF (mD rfl (gZ (path:=[]) rfl rfl aZ rfl)) dP)) (Q3 cg hr6) (.inr rfl) (lT rfl rfl rfl gp eh) rfl rfl rfl)) ?_
  refine cq 7 [1,18] [.hs 115 0 [] 1 0 (r6.map I).length,I (au (x4.1+1))] 179 ?_
  refine cW ?_
  exact rg [1,16,17,18] [180,115] (ih _ _ h hr hn :)
 ·refine aq 1 ?_
  exact rg [1] [20,2] (hn _ (aj h) :) (hk:=hK)
theorem VS (cg:(Condition×(List Int))→Option (List Int))(c_3:Condition)(bn:List Int)(r:(List Int))(h:wQ cg c_3 bn=some r):bz (Hr cg) Tryz.f156 [false,true] 1 (DX (c_3,bn)) (DZ r):=by
 show Run _ _ (DY cg (c_3,bn) r) [.code M0] _
 refine rI 27 [(0,ah c_3),(1,.hs 1 0 [] 1 0 (bn.map I).length)] [(1,some ⟨0,1,bn.map I⟩)] 2 ?_
 unfold wQ at h
 refine ck 12 [2,9] [] [2] [] [.hp 2 0 [] 4 0 0,B (c_3.Op==3)] [some ⟨0,4,[ah c_3]⟩] 82 (by kernel_rfl) ?_
 obtain⟨y3,hy3,hy31,hy32⟩:=bJ h
 have j3:∀u3,y3=.inr u3→Run (Hr cg) 1 (DY cg (c_3,bn) r) (.code (cR (cR M0))::[]) (sO 27 [(1,.hs 2 0 [] 1 0 (u3.map I).length),(2,.hp 3 0 [] 4 0 0)] [none,some ⟨0,1,u3.map I⟩,some ⟨0,4,[ah c_3]⟩] 4):=by
  intro u3 hu
  replace h:=hy32 u3 hu
  refine cq 5 [16] [.isl false (c_3.Parts.map aB)] 36 ?_
  refine oq 52 (I (len c_3.Parts)) rfl (bd rfl rfl rfl (bw rfl)) ?_
  refine cq 3 [18] [I (0)] 68 ?_
  obtain⟨y7,hy7,hy71,hy72⟩:=bJ h
  refine bM rfl ?_
  refine rg [1,16,17,18] [69,2] (M1 cg c_3 bn rfl (0,u3) _ hy7 (fun r' e st hq=>by rw[hy71 r' e] at hq;exact hq) fun u7 hu=>?_)
  replace h:=hy72 u7 hu
  refine cq 5 [4] [.hs 2 0 [] 1 0 (u7.map I).length] 35 ?_
  obtain rfl:=Option.some.inj h
  exact bW rfl ⟨_,fin (vs:=[.hs 2 0 [] 1 0 (u7.map I).length]) rfl (fg (eV rfl (cZ rfl rfl)) ey) rfl (eT (nt rfl (jT rfl) fB)),ni fh⟩
 have r3:∀r',y3=.inl r'→∀st,DY cg (c_3,bn) r' st→(DY cg (c_3,bn) r) st:=fun r' e st hq=>by rw[hy31 r' e] at hq;exact hq
 replace h:=hy3
 refine sq h ?_ ?_<;>intro h
 ·refine cq 4 [10,12] [.hs 1 0 [] 1 0 (bn.map I).length,I c_3.Day] 130 ?_
  refine oq 146 (.hs 130 0 [] 1 0 1) rfl (d7 rfl (kW (f:=I) (xs:=[]) (z:=I (0)) (es:=[I c_3.Day]) (ws:=[I c_3.Day]) rfl rfl rfl (by decide) rfl (dB rfl) rfl)) ?_
  obtain⟨a8,ha8,h⟩:=bS h
  refine oq 162 (.hs 146 0 [] 1 0 (a8.map I).length) rfl (im rfl rfl rfl rfl rfl (lw (path:=[]) (f:=I) (xs:=bn) (ys:=[c_3.Day]) rfl rfl (pT rfl rfl rfl) rfl rfl rfl aZ rfl (by decide) sL ha8 rfl po)) ?_
  refine cq 2 [1] [.hs 146 0 [] 1 0 (a8.map I).length] 178 ?_
  exact rg [1,2] [179,146,2] (j3 _ (aj h) :)
 ·refine aq 1 ?_
  exact rg [1,2] [83,1,2] (j3 _ (aj h) :)
theorem TP {G:Go.Ln.Ground}:aP Tryz.prog G 156 Fz:=iq fun cg g_Fff=>gT 2 1 (aL g_Fff bC) cd Tryz.func156 (fun a r h=>VS cg a.1 a.2 r h)
noncomputable def HZ:(Contract×State)→List V:=cA aM (oA bV)
noncomputable def H0 (r:Int):V×List V:=(I r,[])
noncomputable def FP:Ent:=bm [false,false] HZ H0 fun x=>L0 x.1 x.2
theorem ZZ {c_1:Contract}{s_2:State}{r}(h:L0 c_1 s_2=some r):FP.F (HZ (c_1,s_2))=some (H0 r):=aG (br ba (aH dj)) h
noncomputable def H1:Code:=aD Tryz.f90
noncomputable abbrev Js:Code:=cL (cL (cR (cL (cR (cR H1)))))
noncomputable abbrev qe:Code:=cL (cL (cR (cL (cR (cR (cR (cR (cR H1))))))))
noncomputable abbrev Eg:Code:=cR (cR (cR qe))
noncomputable abbrev Jt:Code:=cR (cR (cL (cL (cR (cR qe)))))
noncomputable def ot:Env:=bT Tryz.prog [(156,Fz),(126,pR)]
noncomputable def wW (x:Contract×State)(r:Int):St→Prop:=QF ot Tryz.f90 [false,false] (HZ x) (H0 r)
theorem Nb (c_1:Contract)(s_2:State):ci ot 0 (wW (c_1,s_2)) Js 0 (mU c_1 s_2) (fun u=>(sT 71 [(2,.hp 1 0 [] 2 0 0),(3,.hp 2 0 [] 5 0 0),(5,.hs 3 0 [] 1 0 (u.map I).length)] [⟨0,2,[aa c_1]⟩,⟨0,5,[ai s_2]⟩,⟨0,1,u.map I⟩] 4)) fun x3=>(sT 71 [(2,.hp 1 0 [] 2 0 0),(3,.hp 2 0 [] 5 0 0),(5,.hs 3 0 [] 1 0 (x3.2.map I).length),(15,.isl false (s_2.Duties.map ae)),(16,I (len s_2.Duties)),(17,I x3.1)] [⟨0,2,[aa c_1]⟩,⟨0,5,[ai s_2]⟩,⟨0,1,x3.2.map I⟩] 4):=dY (Eh c_1 s_2) fun {Q K} hK self ih x3 y h hr hn=>by
 unfold kx at h
 refine cq 5 [18] [B (decide (x3.1<(len s_2.Duties)))] 20 ?_
 refine sq h ?_ ?_<;>intro h
 ·refine aq 1 ?_
  refine aq 4 ?_
  obtain⟨e4,he4,h⟩:=bS h
  refine oq 36 (.iptr (ae e4) 0) rfl (ap rfl rfl rfl (aY rfl rfl rfl rfl he4)) ?_
  refine ck 10 [7,23] [] [52] [] [.hp 52 0 [] 4 0 0,B (e4.Status==1)] [some ⟨0,4,[ae e4]⟩] 132 (by kernel_rfl) ?_
  obtain⟨y5,hy5,hy51,hy52⟩:=bL h
  have j5:∀u5,y5=.inr u5→Run ot 0 Q (.blk 1::.code (cR (cR (cR Js)))::.lp Js::.blk 0::K) (sT 71 [(2,.hp 1 0 [] 2 0 0),(3,.hp 2 0 [] 5 0 0),(5,.hs 3 0 [] 1 0 (u5.map I).length),(15,.isl false (s_2.Duties.map ae)),(16,I (len s_2.Duties)),(17,I x3.1)] [⟨0,2,[aa c_1]⟩,⟨0,5,[ai s_2]⟩,⟨0,1,u5.map I⟩] 4):=by
   intro u5 hu
   replace h:=hy52 u5 hu
   refine cq 5 [17] [I (au (x3.1+1))] 36 ?_
   refine cW ?_
   exact rf [2,3,5,15,16,17] [1,2,3] (ih _ _ h hr hn :)
  have r5:∀r',y5=.inl r'→∀st,wW (c_1,s_2) r' st→Q st:=fun r' e st hq=>hr r' (hy51 r' e) st hq
  replace h:=hy5
  refine sq h ?_ ?_<;>intro h
  ·refine cq 5 [24,27] [.hs 3 0 [] 1 0 (x3.2.map I).length,I (au (e4.Due+1))] 196 ?_
   refine oq 212 (.hs 196 0 [] 1 0 1) rfl (d7 rfl (kW (f:=I) (xs:=[]) (z:=I (0)) (es:=[I (au (e4.Due+1))]) (ws:=[I (au (e4.Due+1))]) rfl rfl rfl (by decide) rfl (dB rfl) rfl)) ?_
   obtain⟨a6,ha6,h⟩:=bS h
   refine oq 228 (.hs 212 0 [] 1 0 (a6.map I).length) rfl (im rfl rfl rfl rfl rfl (lw (path:=[]) (f:=I) (xs:=x3.2) (ys:=[(au (e4.Due+1))]) rfl rfl (pT rfl rfl rfl) rfl rfl rfl aZ rfl (by decide) sL ha6 rfl po)) ?_
   refine cq 2 [5] [.hs 212 0 [] 1 0 (a6.map I).length] 244 ?_
   exact rf [2,3,5,15,16,17] [1,2,212] (j5 _ (aj h) :)
  ·refine aq 1 ?_
   exact rf [2,3,5,15,16,17] [1,2,3] (j5 _ (aj h) :)
 ·refine aq 1 ?_
  exact rf [2,3,5] [1,2,3] (hn _ (aj h) :) (hk:=hK)
theorem Nc (c_1:Contract)(s_2:State):ci ot 0 (wW (c_1,s_2)) (cL (cL (cR (cL (cR (cR (cR H1))))))) 2 (oS c_1 s_2) (fun u=>(sT 71 [(3,.hp 1 0 [] 5 0 0),(5,.hs 2 0 [] 1 0 (u.map I).length)] [⟨0,5,[ai s_2]⟩,⟨0,1,u.map I⟩] 3)) fun x8=>(sT 71 [(3,.hp 1 0 [] 5 0 0),(5,.hs 2 0 [] 1 0 (x8.2.map I).length),(32,.isl false (c_1.Clauses.map an)),(33,I (len c_1.Clauses)),(34,I x8.1)] [⟨0,5,[ai s_2]⟩,⟨0,1,x8.2.map I⟩] 3):=dY (Ei c_1 s_2) fun {Q K} hK self ih x8 y h hr hn=>by
 unfold lR at h
 refine cq 5 [35] [B (decide (x8.1<(len c_1.Clauses)))] 19 ?_
 refine sq h ?_ ?_<;>intro h
 ·refine aq 1 ?_
  refine aq 4 ?_
  obtain⟨e9,he9,h⟩:=bS h
  refine oq 35 (.iptr (ar e9) 0) rfl (ap rfl rfl rfl (aY rfl rfl rfl rfl he9)) ?_
  refine ck 2 [9,37] [] [51] [] [.hp 51 0 [] 12 0 0,ar e9] [some ⟨0,12,[.agg [str ([]),I (0),I (0),str ([]),I (0),I (0),I (0),str ([]),I (0),.isl true [],I (0),str ([])]]⟩] 67 (by kernel_rfl) ?_
  refine eD 51 [.agg [str ([]),I (0),I (0),str ([]),I (0),I (0),I (0),str ([]),I (0),.usl 4 (([]).map aA),I (0),str ([])]] rfl rfl (aC (fp (aC (.refl _) (aC (.refl _) (aC (.refl _) (aC (.refl _) (aC (.refl _) (aC (.refl _) (aC (.refl _) (aC (.refl _) (aC (.refl _) (aC (.nil _) (aC (.refl _) (aC (.refl _) dM))))))))))))) dM) ?_
  refine ck 6 [39,40] [] [51] [] [ah e9.When,.hs 2 0 [] 1 0 (x8.2.map I).length] [some ⟨2,12,[ar e9]⟩] 131 (by kernel_rfl) ?_
  obtain⟨r10,hr10,h⟩:=bS h
  refine oq 147 (.hs 131 0 [] 1 0 (r10.map I).length) rfl (cG rfl rfl (cY rfl rfl rfl (cy (dw rfl) (nF (mD rfl (gZ (path:=[]) rfl rfl aZ rfl)) dP)) (Zt hr10) (.inr rfl) (lT rfl rfl rfl gp eh) rfl rfl rfl)) ?_
  refine cq 7 [5,34] [.hs 131 0 [] 1 0 (r10.map I).length,I (au (x8.1+1))] 195 ?_
  refine cW ?_
  exact rf [3,5,32,33,34] [1,131] (ih _ _ h hr hn :)
 ·refine aq 1 ?_
  exact rf [3,5] [1,2] (hn _ (aj h) :) (hk:=hK)
theorem Nd (c_1:Contract)(s_2:State)(u11:(List Int)):ci ot 0 (wW (c_1,s_2)) qe 4 (mV c_1 s_2 u11) (fun u=>(sT 71 [(3,.hp 1 0 [] 5 0 0),(10,I u)] [⟨0,5,[ai s_2]⟩] 2)) fun x12=>(sT 71 [(3,.hp 1 0 [] 5 0 0),(10,I x12.1),(43,.hs 2 0 [] 1 0 (u11.map I).length),(44,I (len u11)),(45,I x12.2)] [⟨0,5,[ai s_2]⟩,⟨0,1,u11.map I⟩] 3):=dY (Ej c_1 s_2 u11) fun {Q K} hK self ih x12 y h hr hn=>by
 unfold lS at h
 refine cq 5 [46] [B (decide (x12.2<(len u11)))] 19 ?_
 refine sq h ?_ ?_<;>intro h
 ·refine aq 1 ?_
  refine aq 4 ?_
  obtain⟨e13,he13,h⟩:=bS h
  refine oq 35 (.hp 2 0 [] 1 (0+Int.toNat x12.2) 0) rfl (ap rfl rfl rfl (ft (f:=I) (xs:=u11) rfl rfl rfl he13)) ?_
  refine oq 51 (I e13) rfl (bb rfl (jS (path:=[]) rfl rfl rfl aZ (eL (f:=I) (xs:=u11) he13) rfl rfl rfl)) ?_
  refine cq 9 [12,53] [I e13,B (decide (e13>s_2.Day))] 147 ?_
  obtain⟨y14,hy14,hy141,hy142⟩:=bL h
  have j14:∀u14,y14=.inr u14→Run ot 0 Q (.code Jt::.blk 5::.code Eg::.lp qe::.blk 4::K) (sT 71 [(3,.hp 1 0 [] 5 0 0),(10,I x12.1),(12,I e13),(43,.hs 2 0 [] 1 0 (u11.map I).length),(44,I (len u11)),(45,I x12.2),(65,B u14)] [⟨0,5,[ai s_2]⟩,⟨0,1,u11.map I⟩] 3):=by
   intro u14 hu
   replace h:=hy142 u14 hu
   obtain⟨u15,hu15,h⟩:=lJ h
   have j15:Run ot 0 Q (.blk 5::.code Eg::.lp qe::.blk 4::K) (sT 71 [(3,.hp 1 0 [] 5 0 0),(10,I u15),(43,.hs 2 0 [] 1 0 (u11.map I).length),(44,I (len u11)),(45,I x12.2)] [⟨0,5,[ai s_2]⟩,⟨0,1,u11.map I⟩] 3):=by
    refine cq 5 [45] [I (au (x12.2+1))] 35 ?_
    refine cW ?_
    exact rf [3,10,43,44,45] [1,2] (ih _ _ h hr hn :)
   replace h:=hu15
   clear hu15
   refine wC h rfl rfl ?_ ?_<;>intro h
   ·refine cq 4 [10] [I e13] 35 ?_
    subst h
    exact rf [3,10,43,44,45] [1,2] (j15 :)
   ·refine aq 1 ?_
    subst h
    exact rf [3,10,43,44,45] [1,2] (j15 :)
  have r14:∀r',y14=.inl r'→∀st,wW (c_1,s_2) r' st→Q st:=fun r' e st hq=>hr r' (hy141 r' e) st hq
  replace h:=hy14
  refine sp 53 h rfl ?_ ?_<;>intro h
  ·refine cq 1 [54] [I e13] 163 ?_
   obtain⟨r16,hr16,h⟩:=bS h
   refine oy 179 (B r16) rfl (cP (qM hr16)) ?_
   refine cq 2 [57] [B r16] 211 ?_
   obtain⟨u17,hu17,h⟩:=lJ h
   have j17:Run ot 0 Q (.code Jt::.blk 5::.code Eg::.lp qe::.blk 4::K) (sT 71 [(3,.hp 1 0 [] 5 0 0),(10,I x12.1),(12,I e13),(43,.hs 2 0 [] 1 0 (u11.map I).length),(44,I (len u11)),(45,I x12.2),(65,B u17)] [⟨0,5,[ai s_2]⟩,⟨0,1,u11.map I⟩] 3):=by
    exact rf [3,10,12,43,44,45,65] [1,2] (j14 _ (aj h) :)
   replace h:=hu17
   clear hu17
   refine sp 57 h rfl ?_ ?_<;>intro h
   ·refine cq 3 [60] [B (decide (x12.1<0))] 259 ?_
    obtain⟨u18,hu18,h⟩:=lJ h
    have j18:Run ot 0 Q (.code Jt::.blk 5::.code Eg::.lp qe::.blk 4::K) (sT 71 [(3,.hp 1 0 [] 5 0 0),(10,I x12.1),(12,I e13),(43,.hs 2 0 [] 1 0 (u11.map I).length),(44,I (len u11)),(45,I x12.2),(65,B u18)] [⟨0,5,[ai s_2]⟩,⟨0,1,u11.map I⟩] 3):=by
     subst h
     exact rf [3,10,12,43,44,45,65] [1,2] (j17 :)
    replace h:=hu18
    clear hu18
    refine sp 60 h rfl ?_ ?_<;>intro h
    ·refine cq 6 [65] [B true] 339 ?_
     subst h
     exact rf [3,10,12,43,44,45,65] [1,2] (j18 :)
    ·refine cq 6 [65] [B (decide (e13<x12.1))] 339 ?_
     subst h
     exact rf [3,10,12,43,44,45,65] [1,2] (j18 :)
   ·refine cq 9 [65] [B false] 339 ?_
    subst h
    exact rf [3,10,12,43,44,45,65] [1,2] (j17 :)
  ·refine cq 13 [65] [B false] 339 ?_
   exact rf [3,10,12,43,44,45,65] [1,2] (j14 _ (aj h) :)
 ·refine aq 1 ?_
  exact rf [3,10] [1] (hn _ (aj h) :) (hk:=hK)
theorem Wc (c_1:Contract)(s_2:State)(r:Int)(h:L0 c_1 s_2=some r):bz ot Tryz.f90 [false,false] 0 (HZ (c_1,s_2)) (H0 r):=by
 show Run _ _ (wW (c_1,s_2) r) [.code H1] _
 refine rI 71 [(0,aa c_1),(1,ai s_2)] [] 1 ?_
 unfold L0 at h
 refine ck 8 [2,3] [] [1,17] [] [.hp 1 0 [] 2 0 0,.hp 17 0 [] 5 0 0] [some ⟨0,2,[aa c_1]⟩,some ⟨0,5,[ai s_2]⟩] 49 (by kernel_rfl) ?_
 refine oq 65 (.hs 49 0 [] 1 0 0) rfl (d7 rfl (kW (f:=I) (xs:=[]) (z:=I (0)) (es:=[]) (ws:=[]) rfl rfl rfl (by decide) rfl (dB rfl) rfl)) ?_
 refine cq 7 [5,15] [.hs 49 0 [] 1 0 0,.isl false (s_2.Duties.map ae)] 113 ?_
 refine oq 129 (I (len s_2.Duties)) rfl (bd rfl rfl rfl (bw rfl)) ?_
 refine cq 3 [17] [I (0)] 145 ?_
 obtain⟨y7,hy7,hy71,hy72⟩:=bJ h
 refine bM rfl ?_
 refine rf [2,3,5,15,16,17] [1,17,49] (Nb c_1 s_2 rfl (0,[]) _ hy7 (fun r' e st hq=>by rw[hy71 r' e] at hq;exact hq) fun u7 hu=>?_)
 replace h:=hy72 u7 hu
 refine cq 5 [32] [.isl false (c_1.Clauses.map an)] 36 ?_
 refine oq 52 (I (len c_1.Clauses)) rfl (bd rfl rfl rfl (bw rfl)) ?_
 refine cq 3 [34] [I (0)] 68 ?_
 obtain⟨y11,hy11,hy111,hy112⟩:=bJ h
 refine bM rfl ?_
 refine rf [3,5,32,33,34] [2,3] (Nc c_1 s_2 rfl (0,u7) _ hy11 (fun r' e st hq=>by rw[hy111 r' e] at hq;exact hq) fun u11 hu=>?_)
 replace h:=hy112 u11 hu
 refine cq 8 [10,43] [I (-1),.hs 2 0 [] 1 0 (u11.map I).length] 35 ?_
 refine oq 51 (I (len u11)) rfl (bd rfl rfl rfl (oC (f:=I) (xs:=u11) rfl rfl)) ?_
 refine cq 3 [45] [I (0)] 67 ?_
 obtain⟨y19,hy19,hy191,hy192⟩:=bJ h
 refine bM rfl ?_
 refine rf [3,10,43,44,45] [1,2] (Nd c_1 s_2 u11 rfl ((-1),0) _ hy19 (fun r' e st hq=>by rw[hy191 r' e] at hq;exact hq) fun u19 hu=>?_)
 replace h:=hy192 u19 hu
 refine cq 6 [69] [B s_2.Over] 34 ?_
 refine sq h ?_ ?_<;>intro h
 ·refine cq 4 [4] [I (-1)] 50 ?_
  obtain rfl:=Option.some.inj h
  exact rP [I (-1)]
 ·refine aq 1 ?_
  refine cq 5 [4] [I u19] 66 ?_
  obtain rfl:=Option.some.inj h
  exact rP [I u19]
theorem T7 {G:Go.Ln.Ground}:aP Tryz.prog G 90 FP:=gT 2 0 (aL TP (aL tQ bC)) cd Tryz.func90 (fun a r h=>Wc a.1 a.2 r h)
noncomputable def Hp:(Contract×State)→List V:=cA aM (oA bV)
noncomputable def Hq (r:Int×Bool):V×List V:=(.tup [I r.1,B r.2],[])
noncomputable def Fy:Ent:=bm [false,false] Hp Hq fun x=>Jf x.1 x.2
theorem Zq {c_1:Contract}{s_2:State}{r}(h:Jf c_1 s_2=some r):Fy.F (Hp (c_1,s_2))=some (Hq r):=aG (br ba (aH dj)) h
noncomputable def Zs:Code:=aD Tryz.f38
noncomputable def Vb:Env:=bT Tryz.prog [(20,Ft),(90,FP)]
noncomputable def Zr (x:Contract×State)(r:Int×Bool):St→Prop:=QF Vb Tryz.f38 [false,false] (Hp x) (Hq r)
theorem VQ (c_1:Contract)(s_2:State)(r:Int×Bool)(h:Jf c_1 s_2=some r):bz Vb Tryz.f38 [false,false] 0 (Hp (c_1,s_2)) (Hq r):=by
 show Run _ _ (Zr (c_1,s_2) r) [.code Zs] _
 refine rI 13 [(0,aa c_1),(1,ai s_2)] [] 1 ?_
 unfold Jf at h
 refine ck 12 [2,3,6,7] [] [1,17] [] [.hp 1 0 [] 2 0 0,.hp 17 0 [] 5 0 0,aa c_1,ai s_2] [some ⟨0,2,[aa c_1]⟩,some ⟨0,5,[ai s_2]⟩] 97 (by kernel_rfl) ?_
 obtain⟨r3,hr3,h⟩:=bS h
 refine oq 113 (B r3) rfl (cP (Zp hr3)) ?_
 refine cq 2 [9] [B (!r3)] 129 ?_
 refine sq h ?_ ?_<;>intro h
 ·refine cq 5 [4,5] [I (0),B false] 161 ?_
  obtain rfl:=Option.some.inj h
  exact rP [I (0),B false]
 ·refine aq 1 ?_
  refine cq 4 [10,11] [aa c_1,ai s_2] 161 ?_
  obtain⟨r4,hr4,h⟩:=bS h
  refine oq 177 (I r4) rfl (cP (ZZ hr4)) ?_
  refine cq 3 [4,5] [I r4,B true] 209 ?_
  obtain rfl:=Option.some.inj h
  exact rP [I r4,B true]
theorem TN {G:Go.Ln.Ground}:aP Tryz.prog G 38 Fy:=gT 2 0 (aL Th (aL T7 bC)) cd Tryz.func38 (fun a r h=>VQ a.1 a.2 r h)
noncomputable def BA:((List ac)×(List ac))→List V:=cA (fj str) (oA (fj str))
noncomputable def BB (r:Bool):V×List V:=(B r,[])
noncomputable def tu:Ent:=bm [false,false] BA BB fun x=>vd x.1 x.2
theorem OO {a_1:List ac}{b_2:List ac}{r}(h:vd a_1 b_2=some r):tu.F (BA (a_1,b_2))=some (BB r):=aG (br (bR bH) (aH (bR bH))) h
noncomputable def OQ:Code:=aD Tryz.f67
noncomputable def Iv:Env:=bT Tryz.prog []
noncomputable def OP (x:(List ac)×(List ac))(r:Bool):St→Prop:=QF Iv Tryz.f67 [false,false] (BA x) (BB r)
theorem KJ (a_1:List ac)(b_2:List ac):ci Iv 0 (OP (a_1,b_2)) (cL (cL (cR (cL (cR (cR OQ)))))) 0 (rO a_1 b_2) (fun u=>(sT 26 [] [] 1)) fun x3=>(sT 26 [(0,.isl false (a_1.map str)),(1,.isl false (b_2.map str)),(5,I x3)] [] 1):=dY (xt a_1 b_2) fun {Q K} hK self ih x3 y h hr hn=>by
 unfold l6 at h
 refine cq 5 [11,12] [I x3,.isl false (a_1.map str)] 33 ?_
 refine oq 49 (I (len a_1)) rfl (bd rfl rfl rfl (bw rfl)) ?_
 refine cq 2 [14] [B (decide (x3<(len a_1)))] 65 ?_
 refine sq h ?_ ?_<;>intro h
 ·refine aq 1 ?_
  refine aq 3 ?_
  refine eB [0,0,3,7,0,0,48,112,255] rfl (by decide +kernel) ?_
  refine dk 2 [18,17] [I x3,.isl false (a_1.map str)] ?_
  obtain⟨e4,he4,h⟩:=bS h
  refine dq [] [] (.iptr (str e4) 0) rfl (ap rfl rfl rfl (aY rfl rfl rfl rfl he4)) ?_
  refine dq [] [] (str e4) rfl (bb rfl rfl) ?_
  refine dk 2 [22,21] [I x3,.isl false (b_2.map str)] ?_
  obtain⟨e5,he5,h⟩:=bS h
  refine dq [] [] (.iptr (str e5) 0) rfl (ap rfl rfl rfl (aY rfl rfl rfl rfl he5)) ?_
  refine dq [] [] (str e5) rfl (bb rfl rfl) ?_
  refine dk 1 [25] [B (!(e4==e5))] ?_
  refine de 209 rfl rfl ?_
  refine sq h ?_ ?_<;>intro h
  ·refine cq 4 [4] [B false] 225 ?_
   exact bW rfl (hr _ (aj h) _ (qp [B false]))
  ·refine aq 1 ?_
   refine cq 6 [5] [I (au (x3+1))] 257 ?_
   refine cW ?_
   exact rf [0,1,5] [] (ih _ _ h hr hn :)
 ·refine aq 1 ?_
  exact rf [] [] (hn _ (aj h) :) (hk:=hK)
theorem SD (a_1:List ac)(b_2:List ac)(r:Bool)(h:vd a_1 b_2=some r):bz Iv Tryz.f67 [false,false] 0 (BA (a_1,b_2)) (BB r):=by
 show Run _ _ (OP (a_1,b_2) r) [.code OQ] _
 refine rI 26 [(0,.isl false (a_1.map str)),(1,.isl false (b_2.map str))] [] 1 ?_
 unfold vd at h
 refine cq 8 [6] [.isl false (a_1.map str)] 33 ?_
 refine oq 49 (I (len a_1)) rfl (bd rfl rfl rfl (bw rfl)) ?_
 refine cq 1 [8] [.isl false (b_2.map str)] 65 ?_
 refine oq 81 (I (len b_2)) rfl (bd rfl rfl rfl (bw rfl)) ?_
 refine cq 2 [10] [B ((len a_1) != (len b_2))] 97 ?_
 refine sq h ?_ ?_<;>intro h
 ·refine cq 4 [4] [B false] 113 ?_
  obtain rfl:=Option.some.inj h
  exact rP [B false]
 ·refine aq 1 ?_
  refine cq 6 [5] [I (0)] 113 ?_
  obtain⟨y6,hy6,hy61,hy62⟩:=bJ h
  refine bM rfl ?_
  refine rf [0,1,5] [] (KJ a_1 b_2 rfl 0 _ hy6 (fun r' e st hq=>by rw[hy61 r' e] at hq;exact hq) fun u6 hu=>?_)
  replace h:=hy62 u6 hu
  refine cq 4 [4] [B true] 17 ?_
  obtain rfl:=Option.some.inj h
  exact rP [B true]
theorem Gf {G:Go.Ln.Ground}:aP Tryz.prog G 67 tu:=gT 2 0 bC cd Tryz.func67 (fun a r h=>SD a.1 a.2 r h)
noncomputable def uZ:(Condition×Condition)→List V:=cA bg (oA bg)
noncomputable def va (r:Bool):V×List V:=(B r,[])
noncomputable def qE (bc:(Condition×Condition)→Option Bool):Ent:=bm [false,false] uZ va bc
theorem Fg (bc:(Condition×Condition)→Option Bool){x}{r}(h:bc x=some r):(qE bc).F (uZ x)=some (va r):=aG (br cz (aH cz)) h
noncomputable def Bn:((List Condition)×(List Condition))→List V:=cA (fj aB) (oA (fj aB))
noncomputable def Bo (r:Bool):V×List V:=(B r,[])
noncomputable def yW (bc:(Condition×Condition)→Option Bool):Ent:=bm [false,false] Bn Bo fun x=>vb bc x.1 x.2
theorem Xg (bc:(Condition×Condition)→Option Bool){a_1:List Condition}{b_2:List Condition}{r}(h:vb bc a_1 b_2=some r):(yW bc).F (Bn (a_1,b_2))=some (Bo r):=aG (br (bR eE) (aH (bR eE))) h
noncomputable def Ov:Code:=aD Tryz.f223
noncomputable def Iq (bc:(Condition×Condition)→Option Bool):Env:=bT Tryz.prog [(193,(qE bc))]
noncomputable def Ou (bc:(Condition×Condition)→Option Bool)(x:(List Condition)×(List Condition))(r:Bool):St→Prop:=QF (Iq bc) Tryz.f223 [false,false] (Bn x) (Bo r)
theorem KG (bc:(Condition×Condition)→Option Bool)(a_1:List Condition)(b_2:List Condition):ci (Iq bc) 0 (Ou bc (a_1,b_2)) (cL (cL (cR (cL (cR (cR Ov)))))) 0 (pJ bc a_1 b_2) (fun u=>(sT 27 [] [] 1)) fun x3=>(sT 27 [(0,.isl false (a_1.map aB)),(1,.isl false (b_2.map aB)),(5,I x3)] [] 1):=dY (xp bc a_1 b_2) fun {Q K} hK self ih x3 y h hr hn=>by
 unfold jX at h
 refine cq 5 [11,12] [I x3,.isl false (a_1.map aB)] 33 ?_
 refine oq 49 (I (len a_1)) rfl (bd rfl rfl rfl (bw rfl)) ?_
 refine cq 2 [14] [B (decide (x3<(len a_1)))] 65 ?_
 refine sq h ?_ ?_<;>intro h
 ·refine aq 1 ?_
  refine aq 3 ?_
  refine eB [0,0,3,7,0,0,48,112,255,511] rfl (by decide +kernel) ?_
  refine dk 2 [18,17] [I x3,.isl false (a_1.map aB)] ?_
  obtain⟨e4,he4,h⟩:=bS h
  refine dq [] [] (.iptr (ah e4) 0) rfl (ap rfl rfl rfl (aY rfl rfl (cr e4) rfl he4)) ?_
  refine dq [] [] (ah e4) rfl (bb rfl rfl) ?_
  refine dk 2 [22,21] [I x3,.isl false (b_2.map aB)] ?_
  obtain⟨e5,he5,h⟩:=bS h
  refine dq [] [] (.iptr (ah e5) 0) rfl (ap rfl rfl rfl (aY rfl rfl (cr e5) rfl he5)) ?_
  refine dq [] [] (ah e5) rfl (bb rfl rfl) ?_
  obtain⟨r6,hr6,h⟩:=bS h
  refine dq [] [] (B r6) rfl (cG rfl rfl (cY rfl rfl rfl (cy (dw rfl) (cy (dw rfl) dP)) (Fg bc hr6) (.inr rfl) eh rfl rfl rfl)) ?_ (dV rfl rfl rfl rfl (cy (dw rfl) (cy (dw rfl) dP)) (Fg bc hr6) (.inr rfl) rfl)
  refine dk 1 [26] [B (!r6)] ?_
  refine de 225 rfl rfl ?_
  refine sq h ?_ ?_<;>intro h
  ·refine cq 4 [4] [B false] 241 ?_
   exact bW rfl (hr _ (aj h) _ (qp [B false]))
  ·refine aq 1 ?_
   refine cq 6 [5] [I (au (x3+1))] 273 ?_
   refine cW ?_
   exact rf [0,1,5] [] (ih _ _ h hr hn :)
 ·refine aq 1 ?_
  exact rf [] [] (hn _ (aj h) :) (hk:=hK)
theorem Sx (bc:(Condition×Condition)→Option Bool)(a_1:List Condition)(b_2:List Condition)(r:Bool)(h:vb bc a_1 b_2=some r):bz (Iq bc) Tryz.f223 [false,false] 0 (Bn (a_1,b_2)) (Bo r):=by
 show Run _ _ (Ou bc (a_1,b_2) r) [.code Ov] _
 refine rI 27 [(0,.isl false (a_1.map aB)),(1,.isl false (b_2.map aB))] [] 1 ?_
 unfold vb at h
 refine cq 8 [6] [.isl false (a_1.map aB)] 33 ?_
 refine oq 49 (I (len a_1)) rfl (bd rfl rfl rfl (bw rfl)) ?_
 refine cq 1 [8] [.isl false (b_2.map aB)] 65 ?_
 refine oq 81 (I (len b_2)) rfl (bd rfl rfl rfl (bw rfl)) ?_
 refine cq 2 [10] [B ((len a_1) != (len b_2))] 97 ?_
 refine sq h ?_ ?_<;>intro h
 ·refine cq 4 [4] [B false] 113 ?_
  obtain rfl:=Option.some.inj h
  exact rP [B false]
 ·refine aq 1 ?_
  refine cq 6 [5] [I (0)] 113 ?_
  obtain⟨y7,hy7,hy71,hy72⟩:=bJ h
  refine bM rfl ?_
  refine rf [0,1,5] [] (KG bc a_1 b_2 rfl 0 _ hy7 (fun r' e st hq=>by rw[hy71 r' e] at hq;exact hq) fun u7 hu=>?_)
  replace h:=hy72 u7 hu
  refine cq 4 [4] [B true] 17 ?_
  obtain rfl:=Option.some.inj h
  exact rP [B true]
theorem Ow {G:Go.Ln.Ground}(bc:(Condition×Condition)→Option Bool)(JS:aP Tryz.prog G 193 (qE bc)):aP Tryz.prog G 223 (yW bc):=gT 2 0 (aL JS bC) cd Tryz.func223 (fun a r h=>Sx bc a.1 a.2 r h)
noncomputable def yV:Ent:=qE (aF oJ)
theorem Xd {a_1:Condition}{b_2:Condition}{r}(h:yU a_1 b_2=some r):yV.F (uZ (a_1,b_2))=some (va r):=Fg (aF oJ) h
noncomputable def Xf:Code:=aD Tryz.f193
noncomputable def Oq (bc:(Condition×Condition)→Option Bool):Env:=bT Tryz.prog [(223,(yW bc))]
noncomputable def Xe (bc:(Condition×Condition)→Option Bool)(x:Condition×Condition)(r:Bool):St→Prop:=QF (Oq bc) Tryz.f193 [false,false] (uZ x) (va r)
theorem Sw (bc:(Condition×Condition)→Option Bool)(a_1:Condition)(b_2:Condition)(r:Bool)(h:rL bc a_1 b_2=some r):bz (Oq bc) Tryz.f193 [false,false] 0 (uZ (a_1,b_2)) (va r):=by
 show Run _ _ (Xe bc (a_1,b_2) r) [.code Xf] _
 refine rI 26 [(0,ah a_1),(1,ah b_2)] [] 1 ?_
 unfold rL at h
 refine ck 15 [2,3,9] [] [1,17] [] [.hp 1 0 [] 4 0 0,.hp 17 0 [] 4 0 0,B (a_1.Op != b_2.Op)] [some ⟨0,4,[ah a_1]⟩,some ⟨0,4,[ah b_2]⟩] 129 (by kernel_rfl) ?_
 refine sq h ?_ ?_<;>intro h
 ·refine cq 4 [4] [B false] 145 ?_
  obtain rfl:=Option.some.inj h
  exact rP [B false]
 ·refine aq 1 ?_
  refine cq 9 [14] [B (!(a_1.Name==b_2.Name))] 209 ?_
  refine sq h ?_ ?_<;>intro h
  ·refine cq 4 [4] [B false] 225 ?_
   obtain rfl:=Option.some.inj h
   exact rP [B false]
  ·refine aq 1 ?_
   refine cq 9 [19] [B (a_1.Day != b_2.Day)] 289 ?_
   refine sq h ?_ ?_<;>intro h
   ·refine cq 4 [4] [B false] 305 ?_
    obtain rfl:=Option.some.inj h
    exact rP [B false]
   ·refine aq 1 ?_
    refine cq 7 [21,23] [.isl false (a_1.Parts.map aB),.isl false (b_2.Parts.map aB)] 353 ?_
    obtain⟨r3,hr3,h⟩:=bS h
    refine oq 369 (B r3) rfl (cG rfl rfl (cY rfl rfl rfl (cy (dw rfl) (cy (dw rfl) dP)) (Xg bc hr3) (.inr rfl) eh rfl rfl rfl)) ?_
    refine cq 2 [25] [B (!r3)] 385 ?_
    refine sq h ?_ ?_<;>intro h
    ·refine cq 4 [4] [B false] 401 ?_
     obtain rfl:=Option.some.inj h
     exact rP [B false]
    ·refine aq 1 ?_
     refine cq 4 [4] [B true] 401 ?_
     obtain rfl:=Option.some.inj h
     exact rP [B true]
theorem Ot {G:Go.Ln.Ground}:aP Tryz.prog G 193 yV:=iq fun bc JS=>gT 2 0 (aL (Ow bc JS) bC) cd Tryz.func193 (fun a r h=>Sw bc a.1 a.2 r h)
noncomputable def Bj:(Clause×Clause)→List V:=cA an (oA an)
noncomputable def Bk (r:Bool):V×List V:=(B r,[])
noncomputable def yR:Ent:=bm [false,false] Bj Bk fun x=>uY x.1 x.2
theorem Oj {a_1:Clause}{b_2:Clause}{r}(h:uY a_1 b_2=some r):yR.F (Bj (a_1,b_2))=some (Bk r):=aG (br dh (aH dh)) h
noncomputable def Xb:Code:=aD Tryz.f136
noncomputable def Oi:Env:=bT Tryz.prog [(193,yV)]
noncomputable def Xa (x:Clause×Clause)(r:Bool):St→Prop:=QF Oi Tryz.f136 [false,false] (Bj x) (Bk r)
theorem Ss (a_1:Clause)(b_2:Clause)(r:Bool)(h:uY a_1 b_2=some r):bz Oi Tryz.f136 [false,false] 0 (Bj (a_1,b_2)) (Bk r):=by
 show Run _ _ (Xa (a_1,b_2) r) [.code Xb] _
 refine rI 51 [(0,ar a_1),(1,ar b_2)] [] 1 ?_
 unfold uY at h
 refine ck 15 [2,3,9] [] [1,17] [] [.hp 1 0 [] 12 0 0,.hp 17 0 [] 12 0 0,B (!(a_1.Id==b_2.Id))] [some ⟨0,12,[ar a_1]⟩,some ⟨0,12,[ar b_2]⟩] 129 (by kernel_rfl) ?_
 refine sq h ?_ ?_<;>intro h
 ·refine cq 4 [4] [B false] 145 ?_
  obtain rfl:=Option.some.inj h
  exact rP [B false]
 ·refine aq 1 ?_
  refine cq 9 [14] [B (a_1.Kind != b_2.Kind)] 209 ?_
  refine sq h ?_ ?_<;>intro h
  ·refine cq 4 [4] [B false] 225 ?_
   obtain rfl:=Option.some.inj h
   exact rP [B false]
  ·refine aq 1 ?_
   refine cq 9 [19] [B (a_1.Party != b_2.Party)] 289 ?_
   refine sq h ?_ ?_<;>intro h
   ·refine cq 4 [4] [B false] 305 ?_
    obtain rfl:=Option.some.inj h
    exact rP [B false]
   ·refine aq 1 ?_
    refine cq 9 [24] [B (!(a_1.Action==b_2.Action))] 369 ?_
    refine sq h ?_ ?_<;>intro h
    ·refine cq 4 [4] [B false] 385 ?_
     obtain rfl:=Option.some.inj h
     exact rP [B false]
    ·refine aq 1 ?_
     refine cq 9 [29] [B (a_1.Other != b_2.Other)] 449 ?_
     refine sq h ?_ ?_<;>intro h
     ·refine cq 4 [4] [B false] 465 ?_
      obtain rfl:=Option.some.inj h
      exact rP [B false]
     ·refine aq 1 ?_
      refine cq 9 [34] [B (a_1.Amount != b_2.Amount)] 529 ?_
      refine sq h ?_ ?_<;>intro h
      ·refine cq 4 [4] [B false] 545 ?_
       obtain rfl:=Option.some.inj h
       exact rP [B false]
      ·refine aq 1 ?_
       refine cq 7 [36,38] [ah a_1.When,ah b_2.When] 593 ?_
       obtain⟨r3,hr3,h⟩:=bS h
       refine oq 609 (B r3) rfl (cP (Xd hr3)) ?_
       refine cq 2 [40] [B (!r3)] 625 ?_
       refine sq h ?_ ?_<;>intro h
       ·refine cq 4 [4] [B false] 641 ?_
        obtain rfl:=Option.some.inj h
        exact rP [B false]
       ·refine aq 1 ?_
        refine cq 9 [45] [B (a_1.Within != b_2.Within)] 705 ?_
        refine sq h ?_ ?_<;>intro h
        ·refine cq 4 [4] [B false] 721 ?_
         obtain rfl:=Option.some.inj h
         exact rP [B false]
        ·refine aq 1 ?_
         refine cq 9 [50] [B (!(a_1.Repair==b_2.Repair))] 785 ?_
         refine sq h ?_ ?_<;>intro h
         ·refine cq 4 [4] [B false] 801 ?_
          obtain rfl:=Option.some.inj h
          exact rP [B false]
         ·refine aq 1 ?_
          refine cq 4 [4] [B true] 801 ?_
          obtain rfl:=Option.some.inj h
          exact rP [B true]
theorem Ok {G:Go.Ln.Ground}:aP Tryz.prog G 136 yR:=gT 2 0 (aL Ot bC) cd Tryz.func136 (fun a r h=>Ss a.1 a.2 r h)
noncomputable def Bl:((List Clause)×(List Clause))→List V:=cA (fj an) (oA (fj an))
noncomputable def Bm (r:Bool):V×List V:=(B r,[])
noncomputable def yT:Ent:=bm [false,false] Bl Bm fun x=>yS x.1 x.2
theorem Xc {a_1:List Clause}{b_2:List Clause}{r}(h:yS a_1 b_2=some r):yT.F (Bl (a_1,b_2))=some (Bm r):=aG (br (bR dh) (aH (bR dh))) h
noncomputable def Om:Code:=aD Tryz.f68
noncomputable def Ip:Env:=bT Tryz.prog [(136,yR)]
noncomputable def Ol (x:(List Clause)×(List Clause))(r:Bool):St→Prop:=QF Ip Tryz.f68 [false,false] (Bl x) (Bm r)
theorem KF (a_1:List Clause)(b_2:List Clause):ci Ip 0 (Ol (a_1,b_2)) (cL (cL (cR (cL (cR (cR Om)))))) 0 (rK a_1 b_2) (fun u=>(sT 27 [] [] 1)) fun x3=>(sT 27 [(0,.isl false (a_1.map an)),(1,.isl false (b_2.map an)),(5,I x3)] [] 1):=dY (xo a_1 b_2) fun {Q K} hK self ih x3 y h hr hn=>by
 unfold l3 at h
 refine cq 5 [11,12] [I x3,.isl false (a_1.map an)] 33 ?_
 refine oq 49 (I (len a_1)) rfl (bd rfl rfl rfl (bw rfl)) ?_
 refine cq 2 [14] [B (decide (x3<(len a_1)))] 65 ?_
 refine sq h ?_ ?_<;>intro h
 ·refine aq 1 ?_
  refine aq 3 ?_
  refine eB [0,0,3,7,0,0,48,112,255,511] rfl (by decide +kernel) ?_
  refine dk 2 [18,17] [I x3,.isl false (a_1.map an)] ?_
  obtain⟨e4,he4,h⟩:=bS h
  refine dq [] [] (.iptr (ar e4) 0) rfl (ap rfl rfl rfl (aY rfl rfl rfl rfl he4)) ?_
  refine dq [] [] (ar e4) rfl (bb rfl rfl) ?_
  refine dk 2 [22,21] [I x3,.isl false (b_2.map an)] ?_
  obtain⟨e5,he5,h⟩:=bS h
  refine dq [] [] (.iptr (ar e5) 0) rfl (ap rfl rfl rfl (aY rfl rfl rfl rfl he5)) ?_
  refine dq [] [] (ar e5) rfl (bb rfl rfl) ?_
  obtain⟨r6,hr6,h⟩:=bS h
  refine dq [] [] (B r6) rfl (cP (Oj hr6)) ?_ (dV rfl rfl rfl rfl (cy (dw rfl) (cy (dw rfl) dP)) (Oj hr6) (.inr rfl) rfl)
  refine dk 1 [26] [B (!r6)] ?_
  refine de 225 rfl rfl ?_
  refine sq h ?_ ?_<;>intro h
  ·refine cq 4 [4] [B false] 241 ?_
   exact bW rfl (hr _ (aj h) _ (qp [B false]))
  ·refine aq 1 ?_
   refine cq 6 [5] [I (au (x3+1))] 273 ?_
   refine cW ?_
   exact rf [0,1,5] [] (ih _ _ h hr hn :)
 ·refine aq 1 ?_
  exact rf [] [] (hn _ (aj h) :) (hk:=hK)
theorem Su (a_1:List Clause)(b_2:List Clause)(r:Bool)(h:yS a_1 b_2=some r):bz Ip Tryz.f68 [false,false] 0 (Bl (a_1,b_2)) (Bm r):=by
 show Run _ _ (Ol (a_1,b_2) r) [.code Om] _
 refine rI 27 [(0,.isl false (a_1.map an)),(1,.isl false (b_2.map an))] [] 1 ?_
 unfold yS at h
 refine cq 8 [6] [.isl false (a_1.map an)] 33 ?_
 refine oq 49 (I (len a_1)) rfl (bd rfl rfl rfl (bw rfl)) ?_
 refine cq 1 [8] [.isl false (b_2.map an)] 65 ?_
 refine oq 81 (I (len b_2)) rfl (bd rfl rfl rfl (bw rfl)) ?_
 refine cq 2 [10] [B ((len a_1) != (len b_2))] 97 ?_
 refine sq h ?_ ?_<;>intro h
 ·refine cq 4 [4] [B false] 113 ?_
  obtain rfl:=Option.some.inj h
  exact rP [B false]
 ·refine aq 1 ?_
  refine cq 6 [5] [I (0)] 113 ?_
  obtain⟨y7,hy7,hy71,hy72⟩:=bJ h
  refine bM rfl ?_
  refine rf [0,1,5] [] (KF a_1 b_2 rfl 0 _ hy7 (fun r' e st hq=>by rw[hy71 r' e] at hq;exact hq) fun u7 hu=>?_)
  replace h:=hy72 u7 hu
  refine cq 4 [4] [B true] 17 ?_
  obtain rfl:=Option.some.inj h
  exact rP [B true]
theorem Oo {G:Go.Ln.Ground}:aP Tryz.prog G 68 yT:=gT 2 0 (aL Ok bC) cd Tryz.func68 (fun a r h=>Su a.1 a.2 r h)
noncomputable def Bp:(Contract×Contract)→List V:=cA aM (oA aM)
noncomputable def Bq (r:Bool):V×List V:=(B r,[])
noncomputable def yY:Ent:=bm [false,false] Bp Bq fun x=>yX x.1 x.2
theorem Oy {a_1:Contract}{b_2:Contract}{r}(h:yX a_1 b_2=some r):yY.F (Bp (a_1,b_2))=some (Bq r):=aG (br ba (aH ba)) h
noncomputable def Xi:Code:=aD Tryz.f21
noncomputable def Ox:Env:=bT Tryz.prog [(67,tu),(68,yT)]
noncomputable def Xh (x:Contract×Contract)(r:Bool):St→Prop:=QF Ox Tryz.f21 [false,false] (Bp x) (Bq r)
theorem Sy (a_1:Contract)(b_2:Contract)(r:Bool)(h:yX a_1 b_2=some r):bz Ox Tryz.f21 [false,false] 0 (Bp (a_1,b_2)) (Bq r):=by
 show Run _ _ (Xh (a_1,b_2) r) [.code Xi] _
 refine rI 17 [(0,aa a_1),(1,aa b_2)] [] 1 ?_
 unfold yX at h
 refine ck 13 [2,3,6,8] [] [1,17] [] [.hp 1 0 [] 2 0 0,.hp 17 0 [] 2 0 0,.isl false (a_1.Parties.map str),.isl false (b_2.Parties.map str)] [some ⟨0,2,[aa a_1]⟩,some ⟨0,2,[aa b_2]⟩] 113 (by kernel_rfl) ?_
 obtain⟨r3,hr3,h⟩:=bS h
 refine oq 129 (B r3) rfl (cP (OO hr3)) ?_
 refine cq 2 [10] [B (!r3)] 145 ?_
 refine sq h ?_ ?_<;>intro h
 ·refine cq 4 [4] [B false] 161 ?_
  obtain rfl:=Option.some.inj h
  exact rP [B false]
 ·refine aq 1 ?_
  refine cq 7 [12,14] [.isl false (a_1.Clauses.map an),.isl false (b_2.Clauses.map an)] 209 ?_
  obtain⟨r4,hr4,h⟩:=bS h
  refine oq 225 (B r4) rfl (cP (Xc hr4)) ?_
  refine cq 2 [16] [B (!r4)] 241 ?_
  refine sq h ?_ ?_<;>intro h
  ·refine cq 4 [4] [B false] 257 ?_
   obtain rfl:=Option.some.inj h
   exact rP [B false]
  ·refine aq 1 ?_
   refine cq 4 [4] [B true] 257 ?_
   obtain rfl:=Option.some.inj h
   exact rP [B true]
theorem Oz {G:Go.Ln.Ground}:aP Tryz.prog G 21 yY:=gT 2 0 (aL Gf (aL Oo bC)) cd Tryz.func21 (fun a r h=>Sy a.1 a.2 r h)
noncomputable def Br:(Duty×Duty)→List V:=cA ae (oA ae)
noncomputable def Bs (r:Bool):V×List V:=(B r,[])
noncomputable def yZ:Ent:=bm [false,false] Br Bs fun x=>vc x.1 x.2
theorem OB {a_1:Duty}{b_2:Duty}{r}(h:vc a_1 b_2=some r):yZ.F (Br (a_1,b_2))=some (Bs r):=aG (br dW (aH dW)) h
noncomputable def Xk:Code:=aD Tryz.f137
noncomputable def OA:Env:=bT Tryz.prog []
noncomputable def Xj (x:Duty×Duty)(r:Bool):St→Prop:=QF OA Tryz.f137 [false,false] (Br x) (Bs r)
theorem Sz (a_1:Duty)(b_2:Duty)(r:Bool)(h:vc a_1 b_2=some r):bz OA Tryz.f137 [false,false] 0 (Br (a_1,b_2)) (Bs r):=by
 show Run _ _ (Xj (a_1,b_2) r) [.code Xk] _
 refine rI 25 [(0,ae a_1),(1,ae b_2)] [] 1 ?_
 unfold vc at h
 refine ck 15 [2,3,9] [] [1,17] [] [.hp 1 0 [] 4 0 0,.hp 17 0 [] 4 0 0,B (a_1.Clause != b_2.Clause)] [some ⟨0,4,[ae a_1]⟩,some ⟨0,4,[ae b_2]⟩] 129 (by kernel_rfl) ?_
 refine sq h ?_ ?_<;>intro h
 ·refine cq 4 [4] [B false] 145 ?_
  obtain rfl:=Option.some.inj h
  exact rP [B false]
 ·refine aq 1 ?_
  refine cq 9 [14] [B (a_1.Since != b_2.Since)] 209 ?_
  refine sq h ?_ ?_<;>intro h
  ·refine cq 4 [4] [B false] 225 ?_
   obtain rfl:=Option.some.inj h
   exact rP [B false]
  ·refine aq 1 ?_
   refine cq 9 [19] [B (a_1.Due != b_2.Due)] 289 ?_
   refine sq h ?_ ?_<;>intro h
   ·refine cq 4 [4] [B false] 305 ?_
    obtain rfl:=Option.some.inj h
    exact rP [B false]
   ·refine aq 1 ?_
    refine cq 9 [24] [B (a_1.Status != b_2.Status)] 369 ?_
    refine sq h ?_ ?_<;>intro h
    ·refine cq 4 [4] [B false] 385 ?_
     obtain rfl:=Option.some.inj h
     exact rP [B false]
    ·refine aq 1 ?_
     refine cq 4 [4] [B true] 385 ?_
     obtain rfl:=Option.some.inj h
     exact rP [B true]
theorem OC {G:Go.Ln.Ground}:aP Tryz.prog G 137 yZ:=gT 2 0 bC cd Tryz.func137 (fun a r h=>Sz a.1 a.2 r h)
noncomputable def Bt:((List Duty)×(List Duty))→List V:=cA (fj ae) (oA (fj ae))
noncomputable def Bu (r:Bool):V×List V:=(B r,[])
noncomputable def zb:Ent:=bm [false,false] Bt Bu fun x=>za x.1 x.2
theorem Xl {a_1:List Duty}{b_2:List Duty}{r}(h:za a_1 b_2=some r):zb.F (Bt (a_1,b_2))=some (Bu r):=aG (br (bR dW) (aH (bR dW))) h
noncomputable def OE:Code:=aD Tryz.f69
noncomputable def Ir:Env:=bT Tryz.prog [(137,yZ)]
noncomputable def OD (x:(List Duty)×(List Duty))(r:Bool):St→Prop:=QF Ir Tryz.f69 [false,false] (Bt x) (Bu r)
theorem KH (a_1:List Duty)(b_2:List Duty):ci Ir 0 (OD (a_1,b_2)) (cL (cL (cR (cL (cR (cR OE)))))) 0 (rM a_1 b_2) (fun u=>(sT 27 [] [] 1)) fun x3=>(sT 27 [(0,.isl false (a_1.map ae)),(1,.isl false (b_2.map ae)),(5,I x3)] [] 1):=dY (xq a_1 b_2) fun {Q K} hK self ih x3 y h hr hn=>by
 unfold l4 at h
 refine cq 5 [11,12] [I x3,.isl false (a_1.map ae)] 33 ?_
 refine oq 49 (I (len a_1)) rfl (bd rfl rfl rfl (bw rfl)) ?_
 refine cq 2 [14] [B (decide (x3<(len a_1)))] 65 ?_
 refine sq h ?_ ?_<;>intro h
 ·refine aq 1 ?_
  refine aq 3 ?_
  refine eB [0,0,3,7,0,0,48,112,255,511] rfl (by decide +kernel) ?_
  refine dk 2 [18,17] [I x3,.isl false (a_1.map ae)] ?_
  obtain⟨e4,he4,h⟩:=bS h
  refine dq [] [] (.iptr (ae e4) 0) rfl (ap rfl rfl rfl (aY rfl rfl rfl rfl he4)) ?_
  refine dq [] [] (ae e4) rfl (bb rfl rfl) ?_
  refine dk 2 [22,21] [I x3,.isl false (b_2.map ae)] ?_
  obtain⟨e5,he5,h⟩:=bS h
  refine dq [] [] (.iptr (ae e5) 0) rfl (ap rfl rfl rfl (aY rfl rfl rfl rfl he5)) ?_
  refine dq [] [] (ae e5) rfl (bb rfl rfl) ?_
  obtain⟨r6,hr6,h⟩:=bS h
  refine dq [] [] (B r6) rfl (cP (OB hr6)) ?_ (dV rfl rfl rfl rfl (cy (dw rfl) (cy (dw rfl) dP)) (OB hr6) (.inr rfl) rfl)
  refine dk 1 [26] [B (!r6)] ?_
  refine de 225 rfl rfl ?_
  refine sq h ?_ ?_<;>intro h
  ·refine cq 4 [4] [B false] 241 ?_
   exact bW rfl (hr _ (aj h) _ (qp [B false]))
  ·refine aq 1 ?_
   refine cq 6 [5] [I (au (x3+1))] 273 ?_
   refine cW ?_
   exact rf [0,1,5] [] (ih _ _ h hr hn :)
 ·refine aq 1 ?_
  exact rf [] [] (hn _ (aj h) :) (hk:=hK)
theorem SA (a_1:List Duty)(b_2:List Duty)(r:Bool)(h:za a_1 b_2=some r):bz Ir Tryz.f69 [false,false] 0 (Bt (a_1,b_2)) (Bu r):=by
 show Run _ _ (OD (a_1,b_2) r) [.code OE] _
 refine rI 27 [(0,.isl false (a_1.map ae)),(1,.isl false (b_2.map ae))] [] 1 ?_
 unfold za at h
 refine cq 8 [6] [.isl false (a_1.map ae)] 33 ?_
 refine oq 49 (I (len a_1)) rfl (bd rfl rfl rfl (bw rfl)) ?_
 refine cq 1 [8] [.isl false (b_2.map ae)] 65 ?_
 refine oq 81 (I (len b_2)) rfl (bd rfl rfl rfl (bw rfl)) ?_
 refine cq 2 [10] [B ((len a_1) != (len b_2))] 97 ?_
 refine sq h ?_ ?_<;>intro h
 ·refine cq 4 [4] [B false] 113 ?_
  obtain rfl:=Option.some.inj h
  exact rP [B false]
 ·refine aq 1 ?_
  refine cq 6 [5] [I (0)] 113 ?_
  obtain⟨y7,hy7,hy71,hy72⟩:=bJ h
  refine bM rfl ?_
  refine rf [0,1,5] [] (KH a_1 b_2 rfl 0 _ hy7 (fun r' e st hq=>by rw[hy71 r' e] at hq;exact hq) fun u7 hu=>?_)
  replace h:=hy72 u7 hu
  refine cq 4 [4] [B true] 17 ?_
  obtain rfl:=Option.some.inj h
  exact rP [B true]
theorem OG {G:Go.Ln.Ground}:aP Tryz.prog G 69 zb:=gT 2 0 (aL OC bC) cd Tryz.func69 (fun a r h=>SA a.1 a.2 r h)
noncomputable def Bv:((List Int)×(List Int))→List V:=cA (fj I) (oA (fj I))
noncomputable def Bw (r:Bool):V×List V:=(B r,[])
noncomputable def zd:Ent:=bm [false,false] Bv Bw fun x=>zc x.1 x.2
theorem Xm {a_1:List Int}{b_2:List Int}{r}(h:zc a_1 b_2=some r):zd.F (Bv (a_1,b_2))=some (Bw r):=aG (br (bR bZ) (aH (bR bZ))) h
noncomputable def OI:Code:=aD Tryz.f28
noncomputable def Iu:Env:=bT Tryz.prog []
noncomputable def OH (x:(List Int)×(List Int))(r:Bool):St→Prop:=QF Iu Tryz.f28 [false,false] (Bv x) (Bw r)
theorem KI (a_1:List Int)(b_2:List Int):ci Iu 0 (OH (a_1,b_2)) (cL (cL (cR (cL (cR (cR OI)))))) 0 (rN a_1 b_2) (fun u=>(sT 26 [] [] 1)) fun x3=>(sT 26 [(0,.isl false (a_1.map I)),(1,.isl false (b_2.map I)),(5,I x3)] [] 1):=dY (xr a_1 b_2) fun {Q K} hK self ih x3 y h hr hn=>by
 unfold l5 at h
 refine cq 5 [11,12] [I x3,.isl false (a_1.map I)] 33 ?_
 refine oq 49 (I (len a_1)) rfl (bd rfl rfl rfl (bw rfl)) ?_
 refine cq 2 [14] [B (decide (x3<(len a_1)))] 65 ?_
 refine sq h ?_ ?_<;>intro h
 ·refine aq 1 ?_
  refine aq 3 ?_
  refine eB [0,0,3,7,0,0,48,112,255] rfl (by decide +kernel) ?_
  refine dk 2 [18,17] [I x3,.isl false (a_1.map I)] ?_
  obtain⟨e4,he4,h⟩:=bS h
  refine dq [] [] (.iptr (I e4) 0) rfl (ap rfl rfl rfl (aY rfl rfl rfl rfl he4)) ?_
  refine dq [] [] (I e4) rfl (bb rfl rfl) ?_
  refine dk 2 [22,21] [I x3,.isl false (b_2.map I)] ?_
  obtain⟨e5,he5,h⟩:=bS h
  refine dq [] [] (.iptr (I e5) 0) rfl (ap rfl rfl rfl (aY rfl rfl rfl rfl he5)) ?_
  refine dq [] [] (I e5) rfl (bb rfl rfl) ?_
  refine dk 1 [25] [B (e4 != e5)] ?_
  refine de 209 rfl rfl ?_
  refine sq h ?_ ?_<;>intro h
  ·refine cq 4 [4] [B false] 225 ?_
   exact bW rfl (hr _ (aj h) _ (qp [B false]))
  ·refine aq 1 ?_
   refine cq 6 [5] [I (au (x3+1))] 257 ?_
   refine cW ?_
   exact rf [0,1,5] [] (ih _ _ h hr hn :)
 ·refine aq 1 ?_
  exact rf [] [] (hn _ (aj h) :) (hk:=hK)
theorem SB (a_1:List Int)(b_2:List Int)(r:Bool)(h:zc a_1 b_2=some r):bz Iu Tryz.f28 [false,false] 0 (Bv (a_1,b_2)) (Bw r):=by
 show Run _ _ (OH (a_1,b_2) r) [.code OI] _
 refine rI 26 [(0,.isl false (a_1.map I)),(1,.isl false (b_2.map I))] [] 1 ?_
 unfold zc at h
 refine cq 8 [6] [.isl false (a_1.map I)] 33 ?_
 refine oq 49 (I (len a_1)) rfl (bd rfl rfl rfl (bw rfl)) ?_
 refine cq 1 [8] [.isl false (b_2.map I)] 65 ?_
 refine oq 81 (I (len b_2)) rfl (bd rfl rfl rfl (bw rfl)) ?_
 refine cq 2 [10] [B ((len a_1) != (len b_2))] 97 ?_
 refine sq h ?_ ?_<;>intro h
 ·refine cq 4 [4] [B false] 113 ?_
  obtain rfl:=Option.some.inj h
  exact rP [B false]
 ·refine aq 1 ?_
  refine cq 6 [5] [I (0)] 113 ?_
  obtain⟨y6,hy6,hy61,hy62⟩:=bJ h
  refine bM rfl ?_
  refine rf [0,1,5] [] (KI a_1 b_2 rfl 0 _ hy6 (fun r' e st hq=>by rw[hy61 r' e] at hq;exact hq) fun u6 hu=>?_)
  replace h:=hy62 u6 hu
  refine cq 4 [4] [B true] 17 ?_
  obtain rfl:=Option.some.inj h
  exact rP [B true]
theorem OJ {G:Go.Ln.Ground}:aP Tryz.prog G 28 zd:=gT 2 0 bC cd Tryz.func28 (fun a r h=>SB a.1 a.2 r h)
noncomputable def Bx:(State×State)→List V:=cA bV (oA bV)
noncomputable def Bz (r:Bool):V×List V:=(B r,[])
noncomputable def zf:Ent:=bm [false,false] Bx Bz fun x=>ze x.1 x.2
theorem OL {a_1:State}{b_2:State}{r}(h:ze a_1 b_2=some r):zf.F (Bx (a_1,b_2))=some (Bz r):=aG (br dj (aH dj)) h
noncomputable def Xo:Code:=aD Tryz.f22
noncomputable def OK:Env:=bT Tryz.prog [(67,tu),(69,zb),(28,zd)]
noncomputable def Xn (x:State×State)(r:Bool):St→Prop:=QF OK Tryz.f22 [false,false] (Bx x) (Bz r)
theorem SC (a_1:State)(b_2:State)(r:Bool)(h:ze a_1 b_2=some r):bz OK Tryz.f22 [false,false] 0 (Bx (a_1,b_2)) (Bz r):=by
 show Run _ _ (Xn (a_1,b_2) r) [.code Xo] _
 refine rI 33 [(0,ai a_1),(1,ai b_2)] [] 1 ?_
 unfold ze at h
 refine ck 15 [2,3,9] [] [1,17] [] [.hp 1 0 [] 5 0 0,.hp 17 0 [] 5 0 0,B (a_1.Day != b_2.Day)] [some ⟨0,5,[ai a_1]⟩,some ⟨0,5,[ai b_2]⟩] 129 (by kernel_rfl) ?_
 refine sq h ?_ ?_<;>intro h
 ·refine cq 4 [4] [B false] 145 ?_
  obtain rfl:=Option.some.inj h
  exact rP [B false]
 ·refine aq 1 ?_
  refine cq 7 [11,13] [.isl false (a_1.Facts.map str),.isl false (b_2.Facts.map str)] 193 ?_
  obtain⟨r3,hr3,h⟩:=bS h
  refine oq 209 (B r3) rfl (cP (OO hr3)) ?_
  refine cq 2 [15] [B (!r3)] 225 ?_
  refine sq h ?_ ?_<;>intro h
  ·refine cq 4 [4] [B false] 241 ?_
   obtain rfl:=Option.some.inj h
   exact rP [B false]
  ·refine aq 1 ?_
   refine cq 7 [17,19] [.isl false (a_1.Duties.map ae),.isl false (b_2.Duties.map ae)] 289 ?_
   obtain⟨r4,hr4,h⟩:=bS h
   refine oq 305 (B r4) rfl (cP (Xl hr4)) ?_
   refine cq 2 [21] [B (!r4)] 321 ?_
   refine sq h ?_ ?_<;>intro h
   ·refine cq 4 [4] [B false] 337 ?_
    obtain rfl:=Option.some.inj h
    exact rP [B false]
   ·refine aq 1 ?_
    refine cq 7 [23,25] [.isl false (a_1.Balances.map I),.isl false (b_2.Balances.map I)] 385 ?_
    obtain⟨r5,hr5,h⟩:=bS h
    refine oq 401 (B r5) rfl (cP (Xm hr5)) ?_
    refine cq 2 [27] [B (!r5)] 417 ?_
    refine sq h ?_ ?_<;>intro h
    ·refine cq 4 [4] [B false] 433 ?_
     obtain rfl:=Option.some.inj h
     exact rP [B false]
    ·refine aq 1 ?_
     refine cq 9 [32] [B (!(a_1.Over==b_2.Over))] 497 ?_
     refine sq h ?_ ?_<;>intro h
     ·refine cq 4 [4] [B false] 513 ?_
      obtain rfl:=Option.some.inj h
      exact rP [B false]
     ·refine aq 1 ?_
      refine cq 4 [4] [B true] 513 ?_
      obtain rfl:=Option.some.inj h
      exact rP [B true]
theorem OM {G:Go.Ln.Ground}:aP Tryz.prog G 22 zf:=gT 2 0 (aL Gf (aL OG (aL OJ bC))) cd Tryz.func22 (fun a r h=>SC a.1 a.2 r h)
noncomputable def fu:(Contract×State)→List V:=cA aM (oA bV)
noncomputable def fw (r:Bool):V×List V:=(B r,[])
noncomputable def gA:Ent:=bm [false,false] fu fw fun x=>ep x.1 x.2
theorem qu {jf:Contract}{jg:State}{r}(h:ep jf jg=some r):gA.F (fu (jf,jg))=some (fw r):=aG (br ba (aH dj)) h
noncomputable def fx:Code:=aD Tryz.f8
noncomputable def gR:Env:=bT Tryz.prog [(15,zm),(16,zt),(18,zB),(19,zH),(37,zW),(38,Fy),(21,yY),(22,zf)]
noncomputable def kE (x:Contract×State)(r:Bool):St→Prop:=QF gR Tryz.f8 [false,false] (fu x) (fw r)
theorem pj (jf:Contract)(jg:State)(r:Bool)(h:ep jf jg=some r):bz gR Tryz.f8 [false,false] 0 (fu (jf,jg)) (fw r):=by
 show Run _ _ (kE (jf,jg) r) [.code fx] _
 refine rI 58 [(0,aM jf),(1,bV jg)] [] 1 ?_
 unfold ep at h
 refine ck 14 [2,3,12,13] [] [1,17] [] [.hp 1 0 [] 2 0 0,.hp 17 0 [] 5 0 0,aM jf,I (1048576)] [some ⟨0,2,[aM jf]⟩,some ⟨0,5,[bV jg]⟩] 97 (by kernel_rfl) ?_
 obtain⟨r3,hr3,h⟩:=bS h
 refine oq 113 (I r3) rfl (cP (Xx hr3)) ?_
 refine cq 8 [5,16] [I r3,B (decide (r3<0))] 161 ?_
 refine sq h ?_ ?_<;>intro h
 ·refine cq 4 [4] [B true] 177 ?_
  obtain rfl:=Option.some.inj h
  exact rP [B true]
 ·refine aq 1 ?_
  refine cq 4 [17,18] [bV jg,I r3] 193 ?_
  obtain⟨r4,hr4,h⟩:=bS h
  refine oq 209 (I r4) rfl (cP (XG hr4)) ?_
  refine ck 8 [21] [5] [] [] [B (decide (r4<0))] [] 257 (by kernel_rfl) ?_
  refine sq h ?_ ?_<;>intro h
  ·refine cq 4 [4] [B true] 273 ?_
   obtain rfl:=Option.some.inj h
   exact rP [B true]
  ·refine aq 1 ?_
   refine aq 1 ?_
   refine eB [0,1,0,7,15,31,63,63,127,511] rfl (by decide +kernel) ?_
   refine dq [1] [] (aM jf) rfl (bb rfl rfl) ?_
   obtain⟨r5,hr5,h⟩:=bS h
   refine dq [] [] (.agg [.hs 273 0 [] 1 0 (r5.Parties.map str).length,.hs 274 0 [] 12 0 (r5.Clauses.map aO).length]) rfl (cP (vo hr5)) ?_ (dV rfl rfl rfl rfl (cy (dw rfl) dP) (vo hr5) (.inr rfl) rfl)
   refine dq [17] [] (bV jg) rfl (bb rfl rfl) ?_
   obtain⟨r6,hr6,h⟩:=bS h
   refine dq [] [] (.agg [I r6.Day,.hs 305 0 [] 1 0 (r6.Facts.map str).length,.hs 306 0 [] 4 0 (r6.Duties.map ae).length,.hs 307 0 [] 1 0 (r6.Balances.map I).length,B r6.Over]) rfl (cP (vq hr6)) ?_ (dV rfl rfl rfl rfl (cy (dw rfl) dP) (vq hr6) (.inr rfl) rfl)
   obtain⟨r7,hr7,h⟩:=bS h
   refine dq [273,274,305,306,307] [] (.tup [I r7.1,B r7.2]) rfl (cG rfl rfl (cY rfl rfl rfl (cy (qB (dX (eQ (f:=str) (g:=str) (xs:=r5.Parties) rfl rfl (cw fb)) (dX (eQ (f:=aO) (g:=an) (xs:=r5.Clauses) rfl rfl (cw fq)) ly))) (cy (qB (dX (iX rfl) (dX (eQ (f:=str) (g:=str) (xs:=r6.Facts) rfl rfl (cw fb)) (dX (eQ (f:=ae) (g:=ae) (xs:=r6.Duties) rfl rfl (cw gN)) (dX (eQ (f:=I) (g:=I) (xs:=r6.Balances) rfl rfl (cw tT)) (dX (iX rfl) ly)))))) dP)) (P7 hr7) (.inl rfl) eh rfl rfl rfl)) ?_ (dV rfl rfl rfl rfl (cy (qB (dX (eQ (f:=str) (g:=str) (xs:=r5.Parties) rfl rfl (cw fb)) (dX (eQ (f:=aO) (g:=an) (xs:=r5.Clauses) rfl rfl (cw fq)) ly))) (cy (qB (dX (iX rfl) (dX (eQ (f:=str) (g:=str) (xs:=r6.Facts) rfl rfl (cw fb)) (dX (eQ (f:=ae) (g:=ae) (xs:=r6.Duties) rfl rfl (cw gN)) (dX (eQ (f:=I) (g:=I) (xs:=r6.Balances) rfl rfl (cw tT)) (dX (iX rfl) ly)))))) dP)) (P7 hr7) (.inl rfl) rfl)
   refine dk 5 [7,6,29,28,22] [B r7.2,I r7.1,B r7.2,I r7.1,.tup [I r7.1,B r7.2]] ?_
   refine de 417 rfl rfl ?_
   refine cq 3 [30] [aM jf] 433 ?_
   obtain⟨r8,hr8,h⟩:=bS h
   refine oq 449 (.agg [.hs 433 0 [] 1 0 (r8.Parties.map str).length,.hs 434 0 [] 12 0 (r8.Clauses.map aO).length]) rfl (cP (vo hr8)) ?_
   refine ck 1 [8] [] [449] [] [.hp 449 0 [] 2 0 0] [some ⟨0,2,[.agg [.isl true [],.isl true []]]⟩] 465 (by kernel_rfl) ?_
   refine eD 449 [.agg [.usl 1 (([]).map str),.usl 12 (([]).map aO)]] rfl rfl (aC (fp (aC (.nil _) (aC (.nil _) dM))) dM) ?_
   refine o0 481 rfl rfl (hI rfl rfl (fN (path:=[]) (pl:=false) (e':=.agg [.usl 1 (r8.Parties.map str),.usl 12 (r8.Clauses.map aO)]) (es2':=[.agg [.usl 1 (r8.Parties.map str),.usl 12 (r8.Clauses.map aO)]]) rfl (nU (cl (cZ rfl rfl) (cl (cZ rfl rfl) nV))) rfl rfl rfl aZ rfl rfl rfl rfl rfl eC 2 rfl)) ?_
   refine cq 4 [32] [bV jg] 497 ?_
   obtain⟨r9,hr9,h⟩:=bS h
   refine oq 513 (.agg [I r9.Day,.hs 497 0 [] 1 0 (r9.Facts.map str).length,.hs 498 0 [] 4 0 (r9.Duties.map ae).length,.hs 499 0 [] 1 0 (r9.Balances.map I).length,B r9.Over]) rfl (cP (vq hr9)) ?_
   refine ck 1 [9] [] [513] [] [.hp 513 0 [] 5 0 0] [some ⟨0,5,[.agg [I (0),.isl true [],.isl true [],.isl true [],B false]]⟩] 529 (by kernel_rfl) ?_
   refine eD 513 [.agg [I (0),.usl 1 (([]).map str),.usl 4 (([]).map ae),.usl 1 (([]).map I),B false]] rfl rfl (aC (fp (aC (.refl _) (aC (.nil _) (aC (.nil _) (aC (.nil _) (aC (.refl _) dM)))))) dM) ?_
   refine o0 545 rfl rfl (hI rfl rfl (fN (path:=[]) (pl:=false) (e':=.agg [I r9.Day,.usl 1 (r9.Facts.map str),.usl 4 (r9.Duties.map ae),.usl 1 (r9.Balances.map I),B r9.Over]) (es2':=[.agg [I r9.Day,.usl 1 (r9.Facts.map str),.usl 4 (r9.Duties.map ae),.usl 1 (r9.Balances.map I),B r9.Over]]) rfl (nU (cl (cI rfl) (cl (cZ rfl rfl) (cl (cZ rfl rfl) (cl (cZ rfl rfl) (cl (cI rfl) nV)))))) rfl rfl rfl aZ rfl rfl rfl rfl rfl eC 2 rfl)) ?_
   refine cq 5 [35,36] [.agg [.hs 449 2 [(0,0)] 1 0 (r8.Parties.map str).length,.hs 449 2 [(0,1)] 12 0 (r8.Clauses.map aO).length],.agg [I r9.Day,.hs 513 2 [(0,1)] 1 0 (r9.Facts.map str).length,.hs 513 2 [(0,2)] 4 0 (r9.Duties.map ae).length,.hs 513 2 [(0,3)] 1 0 (r9.Balances.map I).length,B r9.Over]] 577 ?_
   obtain⟨r10,hr10,h⟩:=bS h
   refine oq 593 (.tup [I r10.1,B r10.2]) rfl (cG rfl rfl (cY rfl rfl rfl (cy (qB (dX (jr (path:=[(0,0)]) rfl rfl (fC rfl rfl aZ) rfl (cw (f:=str) fb)) (dX (jr (path:=[(0,1)]) rfl rfl (fC rfl rfl aZ) rfl (cw (f:=aO) fq)) ly))) (cy (qB (dX (iX rfl) (dX (jr (path:=[(0,1)]) rfl rfl (fC rfl rfl aZ) rfl (cw (f:=str) fb)) (dX (jr (path:=[(0,2)]) rfl rfl (fC rfl rfl aZ) rfl (cw (f:=ae) gN)) (dX (jr (path:=[(0,3)]) rfl rfl (fC rfl rfl aZ) rfl (cw (f:=I) tT)) (dX (iX rfl) ly)))))) dP)) (Zq hr10) (.inl rfl) eh rfl rfl rfl)) ?_
   refine cq 13 [11,43] [B r10.2,B (r10.1 != r7.1)] 737 ?_
   obtain⟨u11,hu11,h⟩:=lJ h
   have j11:Run gR 0 (kE (jf,jg) r) (.code (cR (cL (cR (cR (cR (cR (cR (cR (cR (cR (cR (cR fx))))))))))))::.code (cR (cR (cR (cR (cR (cR (cR (cR (cR (cR (cR fx)))))))))))::[]) (sT 58 [(2,.hp 1 0 [] 2 0 0),(3,.hp 2 0 [] 5 0 0),(8,.hp 3 0 [] 2 0 0),(9,.hp 4 0 [] 5 0 0),(47,B u11)] [⟨0,2,[aM jf]⟩,⟨0,5,[bV jg]⟩,⟨0,2,[.agg [.usl 1 (r8.Parties.map str),.usl 12 (r8.Clauses.map aO)]]⟩,⟨0,5,[.agg [I r9.Day,.usl 1 (r9.Facts.map str),.usl 4 (r9.Duties.map ae),.usl 1 (r9.Balances.map I),B r9.Over]]⟩] 5):=by
    refine sq h ?_ ?_<;>intro h
    ·refine cq 4 [4] [B false] 21 ?_
     obtain rfl:=Option.some.inj h
     exact rP [B false]
    ·refine aq 1 ?_
     refine aq 2 ?_
     refine eB [0,0,2,7,15] rfl (by decide +kernel) ?_
     refine dq [3] [] (.agg [.hs 3 0 [(0,0)] 1 0 (r8.Parties.map str).length,.hs 3 0 [(0,1)] 12 0 (r8.Clauses.map aO).length]) rfl (bb rfl rfl) ?_
     refine dq [1] [] (aM jf) rfl (bb rfl rfl) ?_
     obtain⟨r12,hr12,h⟩:=bS h
     refine dq [] [] (.agg [.hs 37 0 [] 1 0 (r12.Parties.map str).length,.hs 38 0 [] 12 0 (r12.Clauses.map aO).length]) rfl (cP (vo hr12)) ?_ (dV rfl rfl rfl rfl (cy (dw rfl) dP) (vo hr12) (.inr rfl) rfl)
     obtain⟨r13,hr13,h⟩:=bS h
     refine dq [3,3,37,38] [] (B r13) rfl (cG rfl rfl (cY rfl rfl rfl (cy (qB (dX (jr (path:=[(0,0)]) rfl rfl (fC rfl rfl aZ) rfl (cw (f:=str) fb)) (dX (jr (path:=[(0,1)]) rfl rfl (fC rfl rfl aZ) rfl (cw (f:=aO) fq)) ly))) (cy (qB (dX (eQ (f:=str) (g:=str) (xs:=r12.Parties) rfl rfl (cw fb)) (dX (eQ (f:=aO) (g:=an) (xs:=r12.Clauses) rfl rfl (cw fq)) ly))) dP)) (Oy hr13) (.inl rfl) eh rfl rfl rfl)) ?_ (dV rfl rfl rfl rfl (cy (qB (dX (jr (path:=[(0,0)]) rfl rfl (fC rfl rfl aZ) rfl (cw (f:=str) fb)) (dX (jr (path:=[(0,1)]) rfl rfl (fC rfl rfl aZ) rfl (cw (f:=aO) fq)) ly))) (cy (qB (dX (eQ (f:=str) (g:=str) (xs:=r12.Parties) rfl rfl (cw fb)) (dX (eQ (f:=aO) (g:=an) (xs:=r12.Clauses) rfl rfl (cw fq)) ly))) dP)) (Oy hr13) (.inl rfl) rfl)
     refine dk 1 [52] [B (!r13)] ?_
     refine de 85 rfl rfl ?_
     refine sq h ?_ ?_<;>intro h
     ·refine cq 4 [4] [B false] 101 ?_
      obtain rfl:=Option.some.inj h
      exact rP [B false]
     ·refine aq 1 ?_
      refine aq 2 ?_
      refine eB [0,0,2,7,15] rfl (by decide +kernel) ?_
      refine dq [4] [] (.agg [I r9.Day,.hs 4 0 [(0,1)] 1 0 (r9.Facts.map str).length,.hs 4 0 [(0,2)] 4 0 (r9.Duties.map ae).length,.hs 4 0 [(0,3)] 1 0 (r9.Balances.map I).length,B r9.Over]) rfl (bb rfl rfl) ?_
      refine dq [2] [] (bV jg) rfl (bb rfl rfl) ?_
      obtain⟨r14,hr14,h⟩:=bS h
      refine dq [] [] (.agg [I r14.Day,.hs 117 0 [] 1 0 (r14.Facts.map str).length,.hs 118 0 [] 4 0 (r14.Duties.map ae).length,.hs 119 0 [] 1 0 (r14.Balances.map I).length,B r14.Over]) rfl (cP (vq hr14)) ?_ (dV rfl rfl rfl rfl (cy (dw rfl) dP) (vq hr14) (.inr rfl) rfl)
      obtain⟨r15,hr15,h⟩:=bS h
      refine dq [4,4,4,117,118,119] [] (B r15) rfl (cG rfl rfl (cY rfl rfl rfl (cy (qB (dX (iX rfl) (dX (jr (path:=[(0,1)]) rfl rfl (fC rfl rfl aZ) rfl (cw (f:=str) fb)) (dX (jr (path:=[(0,2)]) rfl rfl (fC rfl rfl aZ) rfl (cw (f:=ae) gN)) (dX (jr (path:=[(0,3)]) rfl rfl (fC rfl rfl aZ) rfl (cw (f:=I) tT)) (dX (iX rfl) ly)))))) (cy (qB (dX (iX rfl) (dX (eQ (f:=str) (g:=str) (xs:=r14.Facts) rfl rfl (cw fb)) (dX (eQ (f:=ae) (g:=ae) (xs:=r14.Duties) rfl rfl (cw gN)) (dX (eQ (f:=I) (g:=I) (xs:=r14.Balances) rfl rfl (cw tT)) (dX (iX rfl) ly)))))) dP)) (OL hr15) (.inl rfl) eh rfl rfl rfl)) ?_ (dV rfl rfl rfl rfl (cy (qB (dX (iX rfl) (dX (jr (path:=[(0,1)]) rfl rfl (fC rfl rfl aZ) rfl (cw (f:=str) fb)) (dX (jr (path:=[(0,2)]) rfl rfl (fC rfl rfl aZ) rfl (cw (f:=ae) gN)) (dX (jr (path:=[(0,3)]) rfl rfl (fC rfl rfl aZ) rfl (cw (f:=I) tT)) (dX (iX rfl) ly)))))) (cy (qB (dX (iX rfl) (dX (eQ (f:=str) (g:=str) (xs:=r14.Facts) rfl rfl (cw fb)) (dX (eQ (f:=ae) (g:=ae) (xs:=r14.Duties) rfl rfl (cw gN)) (dX (eQ (f:=I) (g:=I) (xs:=r14.Balances) rfl rfl (cw tT)) (dX (iX rfl) ly)))))) dP)) (OL hr15) (.inl rfl) rfl)
      refine dk 1 [57] [B (!r15)] ?_
      refine de 165 rfl rfl ?_
      refine sq h ?_ ?_<;>intro h
      ·refine cq 4 [4] [B false] 181 ?_
       obtain rfl:=Option.some.inj h
       exact rP [B false]
      ·refine aq 1 ?_
       refine cq 4 [4] [B true] 181 ?_
       obtain rfl:=Option.some.inj h
       exact rP [B true]
   replace h:=hu11
   clear hu11
   refine sp 43 h rfl ?_ ?_<;>intro h
   ·refine cq 5 [47] [B true] 801 ?_
    subst h
    exact rf [2,3,8,9,47] [1,17,449,513] (j11 :)
   ·refine cq 5 [47] [B (!(r10.2==r7.2))] 801 ?_
    subst h
    exact rf [2,3,8,9,47] [1,17,449,513] (j11 :)
theorem oZ {G:Go.Ln.Ground}:aP Tryz.prog G 8 gA:=gT 2 0 (aL O3 (aL O9 (aL Pq (aL PA (aL P8 (aL TN (aL Oz (aL OM bC)))))))) cd Tryz.func8 (fun a r h=>pj a.1 a.2 r h)
end
end Go.Ln
