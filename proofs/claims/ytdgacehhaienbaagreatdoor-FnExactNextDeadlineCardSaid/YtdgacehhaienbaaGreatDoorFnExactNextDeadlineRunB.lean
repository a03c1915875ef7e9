/-
  The walks.
-/
import Derived.Test.YtdgacehhaienbaaGreatDoorFnExactNextDeadlineRunA
set_option maxHeartbeats 4000000
set_option linter.unusedVariables false
set_option linter.unusedSimpArgs false
set_option maxRecDepth 100000
namespace Go.Ln
open Go Go.Proofs
section
theorem Ym (c_1:Contract)(r:Bool)(h:KI c_1=some r):bA Jg Tryz.f67 [false] 0 (Jf c_1) (Jh r):=by
 show Run _ _ (El c_1 r) [.code Ji] _
 refine rI 30 [(0,aa c_1)] [] 1 ?_
 unfold KI at h
 refine ck 10 [1,5] [] [1] [] [.hp 1 0 [] 2 0 0,.isl false (c_1.Parties.map str)] [some ⟨0,2,[aa c_1]⟩] 65 (by kernel_rfl) ?_
 obtain⟨r2,hr2,h⟩:=bS h
 refine oq 81 (B r2) rfl (cP (acu hr2)) ?_
 refine cq 2 [8] [B (!r2)] 113 ?_
 obtain⟨y3,hy3,hy31,hy32⟩:=bJ h
 have j3:∀u3,y3=.inr u3→Run Jg 0 (El c_1 r) (.code (cR (cL (cR Ji)))::.code (cR (cR Ji))::[]) (sT 30 [(1,.hp 1 0 [] 2 0 0),(14,B u3)] [⟨0,2,[aa c_1]⟩] 2):=by
  intro u3 hu
  replace h:=hy32 u3 hu
  refine sq h ?_ ?_<;>intro h
  ·refine cq 4 [2] [B false] 18 ?_
   obtain rfl:=Option.some.inj h
   exact rP [B false]
  ·refine aq 1 ?_
   refine cq 5 [16] [.isl false (c_1.Clauses.map au)] 34 ?_
   refine oq 50 (I (len c_1.Clauses)) rfl (bu rfl rfl rfl (bI rfl)) ?_
   refine cq 3 [18] [I (0)] 66 ?_
   obtain⟨y6,hy6,hy61,hy62⟩:=bJ h
   refine bN rfl ?_
   refine rf [1,17,18] [1] (O3 c_1 rfl 0 _ hy6 (fun r' e st hq=>by rw[hy61 r' e] at hq;exact hq) fun u6 hu=>?_)
   replace h:=hy62 u6 hu
   refine cq 3 [26] [aa c_1] 18 ?_
   obtain⟨r7,hr7,h⟩:=bS h
   refine oq 34 (.hs 18 0 [] 1 0 (r7.map str).length) rfl (cP (XV hr7)) ?_
   refine oq 50 (I (len r7)) rfl (bu rfl rfl rfl (qv (f:=str) (xs:=r7) rfl rfl)) ?_
   refine cq 3 [2] [B (decide ((len r7)≤16))] 82 ?_
   obtain rfl:=Option.some.inj h
   exact rP [B (decide ((len r7)≤16))]
 have r3:∀r',y3=.inl r'→∀st,El c_1 r' st→(El c_1 r) st:=fun r' e st hq=>by rw[hy31 r' e] at hq;exact hq
 replace h:=hy3
 refine sp 8 h rfl ?_ ?_<;>intro h
 ·refine cq 7 [14] [B true] 209 ?_
  exact rf [1,14] [1] (j3 _ (ak h) :)
 ·refine cq 2 [10] [.isl false (c_1.Clauses.map au)] 145 ?_
  refine oy 161 (I (len c_1.Clauses)) rfl (bu rfl rfl rfl (bI rfl)) ?_
  obtain⟨r8,hr8,h⟩:=bS h
  refine oy 177 (B r8) rfl (cP (iR hr8)) ?_
  refine cq 3 [14] [B (!r8)] 209 ?_
  exact rf [1,14] [1] (j3 _ (ak h) :)
theorem VH {G:Go.Ln.Ground}:aV Tryz.prog G 67 Hf:=gT 1 0 (aM Wp (aM Wv (aM Lh (aM jP bF)))) ci Tryz.func67 (fun a r h=>Ym a r h)
noncomputable def JV:(List ac)→List V:=oA (fY str)
noncomputable def JX (r:Bool):V×List V:=(B r,[])
noncomputable def HC:Ent:=bm [false] JV JX fun x=>Lq x
theorem acU {b8:List ac}{r}(h:Lq b8=some r):HC.F (JV b8)=some (JX r):=aI (aJ (ce bQ)) h
noncomputable def X3:Code:=aG Tryz.f197
noncomputable abbrev tU:Code:=cL (cL (cR (cL (cR X3))))
noncomputable abbrev Ts:Code:=cR (cR (cL (cL (cR (cR tU)))))
noncomputable def F1:Env:=b7 Tryz.prog [(99,qP)]
noncomputable def JW (x:(List ac))(r:Bool):St→Prop:=QF F1 Tryz.f197 [false] (JV x) (JX r)
theorem Po (b8:List ac):cj F1 0 (JW b8) tU 0 (nS b8) (fun u=>(sT 32 [(0,.isl false (b8.map str))] [] 1)) fun x2=>(sT 32 [(0,.isl false (b8.map str)),(5,.isl false (b8.map str)),(6,I (len b8)),(7,I x2)] [] 1):=ef (F2 b8) fun {Q K} hK self ih x2 y h hr hn=>by
 unfold mF at h
 refine cq 5 [8] [B (decide (x2<(len b8)))] 17 ?_
 refine sq h ?_ ?_<;>intro h
 ·refine aq 1 ?_
  refine cq 5 [9] [I x2] 33 ?_
  obtain⟨e3,he3,h⟩:=bS h
  refine oq 49 (.iptr (str e3) 0) rfl (aj rfl rfl rfl (bd rfl rfl rfl rfl he3)) ?_
  refine cq 7 [3,4,12] [I x2,str e3,str e3] 113 ?_
  obtain⟨r4,hr4,h⟩:=bS h
  refine oq 129 (B r4) rfl (cP (Fr hr4)) ?_
  refine cq 2 [15] [B (!r4)] 161 ?_
  obtain⟨y5,hy5,hy51,hy52⟩:=bL h
  have j5:∀u5,y5=.inr u5→Run F1 0 Q (.code Ts::.blk 1::.code (cR (cR (cR tU)))::.lp tU::.blk 0::K) (sT 32 [(0,.isl false (b8.map str)),(5,.isl false (b8.map str)),(6,I (len b8)),(7,I x2),(27,B u5)] [] 1):=by
   intro u5 hu
   replace h:=hy52 u5 hu
   refine sq h ?_ ?_<;>intro h
   ·refine cq 4 [2] [B false] 17 ?_
    exact co rfl (hr _ (ak h) _ (qp [B false]))
   ·refine aq 1 ?_
    refine cq 5 [7] [I (ai (x2+1))] 33 ?_
    refine cZ ?_
    exact rf [0,5,6,7] [] (ih _ _ h hr hn :)
  have r5:∀r',y5=.inl r'→∀st,JW b8 r' st→Q st:=fun r' e st hq=>hr r' (hy51 r' e) st hq
  replace h:=hy5
  refine sp 15 h rfl ?_ ?_<;>intro h
  ·refine cq 13 [27] [B true] 353 ?_
   exact rf [0,5,6,7,27] [] (j5 _ (ak h) :)
  ·refine cq 3 [18] [B (decide (x2>0))] 209 ?_
   obtain⟨y6,hy6,hy61,hy62⟩:=bL h
   have j6:∀u6,y6=.inr u6→Run F1 0 Q (.code Ts::.blk 1::.code (cR (cR (cR tU)))::.lp tU::.blk 0::K) (sT 32 [(0,.isl false (b8.map str)),(5,.isl false (b8.map str)),(6,I (len b8)),(7,I x2),(27,B u6)] [] 1):=by
    intro u6 hu
    replace h:=hy62 u6 hu
    exact rf [0,5,6,7,27] [] (j5 _ (ak h) :)
   have r6:∀r',y6=.inl r'→∀st,JW b8 r' st→Q st:=fun r' e st hq=>r5 r' (hy61 r' e) st hq
   replace h:=hy6
   refine sp 18 h rfl ?_ ?_<;>intro h
   ·refine cq 4 [19,20,22] [str e3,.isl false (b8.map str),I (ai (x2 - 1))] 273 ?_
    obtain⟨e7,he7,h⟩:=bS h
    refine oy 289 (.iptr (str e7) 0) rfl (aj rfl rfl rfl (bd rfl rfl rfl rfl he7)) ?_
    refine cq 5 [27] [B (Op.bytesLess e3 e7||e3==e7)] 353 ?_
    exact rf [0,5,6,7,27] [] (j6 _ (ak h) :)
   ·refine cq 10 [27] [B false] 353 ?_
    exact rf [0,5,6,7,27] [] (j6 _ (ak h) :)
 ·refine aq 1 ?_
  exact rf [0] [] (hn _ (ak h) :) (hk:=hK)
theorem YQ (b8:List ac)(r:Bool)(h:Lq b8=some r):bA F1 Tryz.f197 [false] 0 (JV b8) (JX r):=by
 show Run _ _ (JW b8 r) [.code X3] _
 refine rI 32 [(0,.isl false (b8.map str))] [] 1 ?_
 unfold Lq at h
 refine cq 8 [5] [.isl false (b8.map str)] 33 ?_
 refine oq 49 (I (len b8)) rfl (bu rfl rfl rfl (bI rfl)) ?_
 refine cq 3 [7] [I (0)] 65 ?_
 obtain⟨y8,hy8,hy81,hy82⟩:=bJ h
 refine bN rfl ?_
 refine rf [0,5,6,7] [] (Po b8 rfl 0 _ hy8 (fun r' e st hq=>by rw[hy81 r' e] at hq;exact hq) fun u8 hu=>?_)
 replace h:=hy82 u8 hu
 refine cq 3 [29] [.isl false (b8.map str)] 17 ?_
 refine oq 33 (I (len b8)) rfl (bu rfl rfl rfl (bI rfl)) ?_
 refine cq 3 [2] [B (decide ((len b8)≤16))] 65 ?_
 obtain rfl:=Option.some.inj h
 exact rP [B (decide ((len b8)≤16))]
theorem WA {G:Go.Ln.Ground}:aV Tryz.prog G 197 HC:=gT 1 0 (aM uY bF) ci Tryz.func197 (fun a r h=>YQ a r h)
noncomputable def J0:(ac×(List ac))→List V:=cA str (oA (fun x:List ac=>.iptr ((fY str) x) 0))
noncomputable def J1 (r:Bool):V×List V:=(B r,[])
noncomputable def HE:Ent:=bm [false,false] J0 J1 fun x=>Ls x.1 x.2
theorem acW {f_1:ac}{a_2:List ac}{r}(h:Ls f_1 a_2=some r):HE.F (J0 (f_1,a_2))=some (J1 r):=aI (aU bQ (aJ (pb (ce bQ)))) h
noncomputable def acY:Code:=aG Tryz.f199
noncomputable def X4:Env:=b7 Tryz.prog [(159,qS)]
noncomputable def acX (x:ac×(List ac))(r:Bool):St→Prop:=QF X4 Tryz.f199 [false,false] (J0 x) (J1 r)
theorem YS (f_1:ac)(a_2:List ac)(r:Bool)(h:Ls f_1 a_2=some r):bA X4 Tryz.f199 [false,false] 0 (J0 (f_1,a_2)) (J1 r):=by
 show Run _ _ (acX (f_1,a_2) r) [.code acY] _
 refine rI 8 [(0,str f_1),(1,.iptr (.isl false (a_2.map str)) 0)] [] 1 ?_
 unfold Ls at h
 refine cq 8 [4,5] [.isl false (a_2.map str),str f_1] 49 ?_
 obtain⟨r3,hr3,h⟩:=bS h
 refine oq 65 (B r3) rfl (cP (KA hr3)) ?_
 refine cq 3 [3] [B (!r3)] 97 ?_
 obtain rfl:=Option.some.inj h
 exact rP [B (!r3)]
theorem WC {G:Go.Ln.Ground}:aV Tryz.prog G 199 HE:=gT 2 0 (aM wv bF) ci Tryz.func199 (fun a r h=>YS a.1 a.2 r h)
noncomputable def Eb:((List ac)×(List ac))→List V:=cA (fY str) (oA (fun x:(List ac)=>(.fn 199 [.iptr ((fY str) x) 0]:V)))
noncomputable def Ec (r:Int):V×List V:=(I r,[])
noncomputable def Bs:Ent:=bm [false,false] Eb Ec fun x=>He x.1 x.2
theorem aa2 {s_1:List ac}{f_2:(List ac)}{r}(h:He s_1 f_2=some r):Bs.F (Eb (s_1,f_2))=some (Ec r):=aI (aU (ce bQ) (aJ (jG (ce bQ)))) h
noncomputable def Sa:Code:=aG Tryz.f242
noncomputable def KF:Env:=b7 Tryz.prog [(199,HE)]
noncomputable def R9 (x:(List ac)×(List ac))(r:Int):St→Prop:=QF KF Tryz.f242 [false,false] (Eb x) (Ec r)
theorem M0 (s_1:List ac)(f_2:(List ac)):cj KF 0 (R9 (s_1,f_2)) (cL (cL (cR (cL (cR Sa))))) 0 (tp s_1 f_2) (fun u=>(sT 19 [] [] 1)) fun x3=>(sT 19 [(0,.isl false (s_1.map str)),(1,.fn 199 [.iptr (.isl false (f_2.map str)) 0]),(7,I (len s_1)),(8,I x3)] [] 1):=ef (yZ s_1 f_2) fun {Q K} hK self ih x3 y h hr hn=>by
 unfold nc at h
 refine cq 5 [9] [B (decide (x3<(len s_1)))] 17 ?_
 refine sq h ?_ ?_<;>intro h
 ·refine aq 1 ?_
  refine cq 12 [5,11,12,13] [I x3,.fn 199 [.iptr (.isl false (f_2.map str)) 0],.isl false (s_1.map str),I x3] 97 ?_
  obtain⟨e4,he4,h⟩:=bS h
  refine oq 113 (.iptr (str e4) 0) rfl (aj rfl rfl rfl (bd rfl rfl rfl rfl he4)) ?_
  refine cq 1 [15] [str e4] 129 ?_
  obtain⟨r5,hr5,h⟩:=bS h
  refine oq 145 (B r5) rfl (cP (acW hr5)) ?_
  refine aq 1 ?_
  refine sq h ?_ ?_<;>intro h
  ·refine cq 5 [4] [I x3] 177 ?_
   exact co rfl (hr _ (ak h) _ (qp [I x3]))
  ·refine aq 1 ?_
   refine cq 5 [8] [I (ai (x3+1))] 177 ?_
   refine cZ ?_
   exact rf [0,1,7,8] [] (ih _ _ h hr hn :)
 ·refine aq 1 ?_
  exact rf [] [] (hn _ (ak h) :) (hk:=hK)
theorem VD (s_1:List ac)(f_2:(List ac))(r:Int)(h:He s_1 f_2=some r):bA KF Tryz.f242 [false,false] 0 (Eb (s_1,f_2)) (Ec r):=by
 show Run _ _ (R9 (s_1,f_2) r) [.code Sa] _
 refine rI 19 [(0,.isl false (s_1.map str)),(1,.fn 199 [.iptr (.isl false (f_2.map str)) 0])] [] 1 ?_
 unfold He at h
 refine cq 8 [6] [.isl false (s_1.map str)] 33 ?_
 refine oq 49 (I (len s_1)) rfl (bu rfl rfl rfl (bI rfl)) ?_
 refine cq 3 [8] [I (0)] 65 ?_
 obtain⟨y6,hy6,hy61,hy62⟩:=bJ h
 refine bN rfl ?_
 refine rf [0,1,7,8] [] (M0 s_1 f_2 rfl 0 _ hy6 (fun r' e st hq=>by rw[hy61 r' e] at hq;exact hq) fun u6 hu=>?_)
 replace h:=hy62 u6 hu
 refine cq 4 [4] [I (-1)] 17 ?_
 obtain rfl:=Option.some.inj h
 exact rP [I (-1)]
theorem Sb {G:Go.Ln.Ground}:aV Tryz.prog G 242 Bs:=gT 2 0 (aM WC bF) ci Tryz.func242 (fun a r h=>VD a.1 a.2 r h)
noncomputable def DY:((List ac)×(List ac))→List V:=cA (fY str) (oA (fun x:(List ac)=>(.fn 199 [.iptr ((fY str) x) 0]:V)))
noncomputable def DZ (r:Bool):V×List V:=(B r,[])
noncomputable def Bn:Ent:=bm [false,false] DY DZ fun x=>G9 x.1 x.2
theorem aaT {s_1:List ac}{f_2:(List ac)}{r}(h:G9 s_1 f_2=some r):Bn.F (DY (s_1,f_2))=some (DZ r):=aI (aU (ce bQ) (aJ (jG (ce bQ)))) h
noncomputable def aaV:Code:=aG Tryz.f198
noncomputable def RR:Env:=b7 Tryz.prog [(242,Bs)]
noncomputable def aaU (x:(List ac)×(List ac))(r:Bool):St→Prop:=QF RR Tryz.f198 [false,false] (DY x) (DZ r)
theorem Vx (s_1:List ac)(f_2:(List ac))(r:Bool)(h:G9 s_1 f_2=some r):bA RR Tryz.f198 [false,false] 0 (DY (s_1,f_2)) (DZ r):=by
 show Run _ _ (aaU (s_1,f_2) r) [.code aaV] _
 refine rI 9 [(0,.isl false (s_1.map str)),(1,.fn 199 [.iptr (.isl false (f_2.map str)) 0])] [] 1 ?_
 unfold G9 at h
 refine cq 8 [5,6] [.isl false (s_1.map str),.fn 199 [.iptr (.isl false (f_2.map str)) 0]] 49 ?_
 obtain⟨r3,hr3,h⟩:=bS h
 refine oq 65 (I r3) rfl (cm rfl rfl (cU rfl rfl rfl (bC (cg rfl) (bC (ow (dX (fU rfl) im)) dM)) (aa2 hr3) (.inr rfl) ew rfl rfl rfl)) ?_
 refine cq 3 [4] [B (decide (r3≥0))] 97 ?_
 obtain rfl:=Option.some.inj h
 exact rP [B (decide (r3≥0))]
theorem RS {G:Go.Ln.Ground}:aV Tryz.prog G 198 Bn:=gT 2 0 (aM Sb bF) ci Tryz.func198 (fun a r h=>Vx a.1 a.2 r h)
noncomputable def CN:(List Int)→List V:=oA (fY I)
noncomputable def CO (r:Int):V×List V:=(I r,[])
noncomputable def Ap:Ent:=bm [false] CN CO fun x=>vZ x
theorem ZO {aw:List Int}{r}(h:vZ aw=some r):Ap.F (CN aw)=some (CO r):=aI (aJ (ce bG)) h
noncomputable def Qm:Code:=aG Tryz.f200
noncomputable def Kc:Env:=b7 Tryz.prog []
noncomputable def Ql (x:(List Int))(r:Int):St→Prop:=QF Kc Tryz.f200 [false] (CN x) (CO r)
theorem MG (aw:List Int):cj Kc 0 (Ql aw) (cL (cL (cR (cL (cR (cR Qm)))))) 0 (G2 aw) (fun u=>(sT 17 [(3,I u)] [] 1)) fun x2=>(sT 17 [(3,I x2.1),(6,.isl false (aw.map I)),(7,I (len aw)),(8,I x2.2)] [] 1):=ef (MF aw) fun {Q K} hK self ih x2 y h hr hn=>by
 unfold rG at h
 refine cq 5 [9] [B (decide (x2.2<(len aw)))] 17 ?_
 refine sq h ?_ ?_<;>intro h
 ·refine aq 1 ?_
  refine aq 4 ?_
  obtain⟨e3,he3,h⟩:=bS h
  refine oq 33 (.iptr (I e3) 0) rfl (aj rfl rfl rfl (bd rfl rfl rfl rfl he3)) ?_
  refine cq 14 [3,8] [I (ai (x2.1+e3)),I (ai (x2.2+1))] 161 ?_
  refine cZ ?_
  exact rf [3,6,7,8] [] (ih _ _ h hr hn :)
 ·refine aq 1 ?_
  exact rf [3] [] (hn _ (ak h) :) (hk:=hK)
theorem UR (aw:List Int)(r:Int)(h:vZ aw=some r):bA Kc Tryz.f200 [false] 0 (CN aw) (CO r):=by
 show Run _ _ (Ql aw r) [.code Qm] _
 refine rI 17 [(0,.isl false (aw.map I))] [] 1 ?_
 unfold vZ at h
 refine cq 12 [3,6] [I (0),.isl false (aw.map I)] 49 ?_
 refine oq 65 (I (len aw)) rfl (bu rfl rfl rfl (bI rfl)) ?_
 refine cq 3 [8] [I (0)] 81 ?_
 obtain⟨y4,hy4,hy41,hy42⟩:=bJ h
 refine bN rfl ?_
 refine rf [3,6,7,8] [] (MG aw rfl (0,0) _ hy4 (fun r' e st hq=>by rw[hy41 r' e] at hq;exact hq) fun u4 hu=>?_)
 replace h:=hy42 u4 hu
 refine cq 5 [2] [I u4] 33 ?_
 obtain rfl:=Option.some.inj h
 exact rP [I u4]
theorem Qn {G:Go.Ln.Ground}:aV Tryz.prog G 200 Ap:=gT 1 0 bF ci Tryz.func200 (fun a r h=>UR a r h)
noncomputable def JP:(Clause×Contract×Int)→List V:=cA au (cA (fun x:Contract=>.iptr (aX x) 0) (oA (fun x:Int=>.iptr (I x) 0)))
noncomputable def JQ (r:Bool):V×List V:=(B r,[])
noncomputable def Hz:Ent:=bm [false,false,false] JP JQ fun x=>Lo x.1 x.2.1 x.2.2
theorem acN {x_1:Clause}{a_2:Contract}{a_3:Int}{r}(h:Lo x_1 a_2 a_3=some r):Hz.F (JP (x_1,a_2,a_3))=some (JQ r):=aI (aU dB (aU (pb bn) (aJ (pb bG)))) h
noncomputable def acP:Code:=aG Tryz.f262
noncomputable def X1:Env:=b7 Tryz.prog []
noncomputable def acO (x:Clause×Contract×Int)(r:Bool):St→Prop:=QF X1 Tryz.f262 [false,false,false] (JP x) (JQ r)
theorem YN (x_1:Clause)(a_2:Contract)(a_3:Int)(r:Bool)(h:Lo x_1 a_2 a_3=some r):bA X1 Tryz.f262 [false,false,false] 0 (JP (x_1,a_2,a_3)) (JQ r):=by
 show Run _ _ (acO (x_1,a_2,a_3) r) [.code acP] _
 refine rI 14 [(0,az x_1),(1,.iptr (aa a_2) 0),(2,.iptr (I a_3) 0)] [] 1 ?_
 unfold Lo at h
 refine ck 6 [3] [] [1] [] [.hp 1 0 [] 12 0 0] [some ⟨0,12,[az x_1]⟩] 33 (by kernel_rfl) ?_
 refine dK [0,1,0,4,0,28,60,124,255,511] rfl (by decide +kernel) ?_
 refine dq [1] [] (.hp 1 0 [] 12 0 11) rfl (an rfl rfl rfl) ?_
 refine dq [1] [] (str x_1.Repair) rfl (aN rfl rfl) ?_
 refine dq [] [] (.iptr (aa a_2) 1) rfl (an rfl rfl rfl) ?_
 refine dq [] [] (.isl false (a_2.Clauses.map au)) rfl (aN rfl rfl) ?_
 refine dq [] [] (I a_3) rfl (aN rfl rfl) ?_
 obtain⟨e4,he4,h⟩:=bS h
 refine dq [] [] (.iptr (az e4) 0) rfl (aj rfl rfl rfl (bd rfl rfl rfl rfl he4)) ?_
 refine dq [] [] (.iptr (az e4) 0) rfl (an rfl rfl rfl) ?_
 refine dq [] [] (str e4.Id) rfl (aN rfl rfl) ?_
 refine dk 2 [4,13] [B (x_1.Repair==e4.Id),B (x_1.Repair==e4.Id)] ?_
 refine de 193 rfl rfl ?_
 obtain rfl:=Option.some.inj h
 exact rP [B (x_1.Repair==e4.Id)]
theorem Wx {G:Go.Ln.Ground}:aV Tryz.prog G 262 Hz:=gT 3 0 bF ci Tryz.func262 (fun a r h=>YN a.1 a.2.1 a.2.2 r h)
noncomputable def D5:((List Clause)×(Contract×Int))→List V:=cA (fY au) (oA (fun x:Contract×Int=>(.fn 262 [.iptr (aX x.1) 0,.iptr (I x.2) 0]:V)))
noncomputable def D6 (r:Int):V×List V:=(I r,[])
noncomputable def Bp:Ent:=bm [false,false] D5 D6 fun x=>Hb x.1 x.2
theorem aaZ {s_1:List Clause}{f_2:Contract×Int}{r}(h:Hb s_1 f_2=some r):Bp.F (D5 (s_1,f_2))=some (D6 r):=aI (aU (ce dB) (aJ (Oe bn bG))) h
noncomputable def RZ:Code:=aG Tryz.f162
noncomputable def KC:Env:=b7 Tryz.prog [(262,Hz)]
noncomputable def RY (x:(List Clause)×(Contract×Int))(r:Int):St→Prop:=QF KC Tryz.f162 [false,false] (D5 x) (D6 r)
theorem MX (s_1:List Clause)(f_2:Contract×Int):cj KC 0 (RY (s_1,f_2)) (cL (cL (cR (cL (cR RZ))))) 0 (tj s_1 f_2) (fun u=>(sT 19 [] [] 1)) fun x3=>(sT 19 [(0,.isl false (s_1.map au)),(1,.fn 262 [.iptr (aa f_2.1) 0,.iptr (I f_2.2) 0]),(7,I (len s_1)),(8,I x3)] [] 1):=ef (yW s_1 f_2) fun {Q K} hK self ih x3 y h hr hn=>by
 unfold mY at h
 refine cq 5 [9] [B (decide (x3<(len s_1)))] 17 ?_
 refine sq h ?_ ?_<;>intro h
 ·refine aq 1 ?_
  refine cq 12 [5,11,12,13] [I x3,.fn 262 [.iptr (aa f_2.1) 0,.iptr (I f_2.2) 0],.isl false (s_1.map au),I x3] 97 ?_
  obtain⟨e4,he4,h⟩:=bS h
  refine oq 113 (.iptr (az e4) 0) rfl (aj rfl rfl rfl (bd rfl rfl rfl rfl he4)) ?_
  refine cq 1 [15] [az e4] 129 ?_
  obtain⟨r5,hr5,h⟩:=bS h
  refine oq 145 (B r5) rfl (cP (acN hr5)) ?_
  refine aq 1 ?_
  refine sq h ?_ ?_<;>intro h
  ·refine cq 5 [4] [I x3] 177 ?_
   exact co rfl (hr _ (ak h) _ (qp [I x3]))
  ·refine aq 1 ?_
   refine cq 5 [8] [I (ai (x3+1))] 177 ?_
   refine cZ ?_
   exact rf [0,1,7,8] [] (ih _ _ h hr hn :)
 ·refine aq 1 ?_
  exact rf [] [] (hn _ (ak h) :) (hk:=hK)
theorem VA (s_1:List Clause)(f_2:Contract×Int)(r:Int)(h:Hb s_1 f_2=some r):bA KC Tryz.f162 [false,false] 0 (D5 (s_1,f_2)) (D6 r):=by
 show Run _ _ (RY (s_1,f_2) r) [.code RZ] _
 refine rI 19 [(0,.isl false (s_1.map au)),(1,.fn 262 [.iptr (aa f_2.1) 0,.iptr (I f_2.2) 0])] [] 1 ?_
 unfold Hb at h
 refine cq 8 [6] [.isl false (s_1.map au)] 33 ?_
 refine oq 49 (I (len s_1)) rfl (bu rfl rfl rfl (bI rfl)) ?_
 refine cq 3 [8] [I (0)] 65 ?_
 obtain⟨y6,hy6,hy61,hy62⟩:=bJ h
 refine bN rfl ?_
 refine rf [0,1,7,8] [] (MX s_1 f_2 rfl 0 _ hy6 (fun r' e st hq=>by rw[hy61 r' e] at hq;exact hq) fun u6 hu=>?_)
 replace h:=hy62 u6 hu
 refine cq 4 [4] [I (-1)] 17 ?_
 obtain rfl:=Option.some.inj h
 exact rP [I (-1)]
theorem R1 {G:Go.Ln.Ground}:aV Tryz.prog G 162 Bp:=gT 2 0 (aM Wx bF) ci Tryz.func162 (fun a r h=>VA a.1 a.2 r h)
noncomputable def DS:((List Clause)×(Contract×Int))→List V:=cA (fY au) (oA (fun x:Contract×Int=>(.fn 262 [.iptr (aX x.1) 0,.iptr (I x.2) 0]:V)))
noncomputable def DT (r:Bool):V×List V:=(B r,[])
noncomputable def Bk:Ent:=bm [false,false] DS DT fun x=>G6 x.1 x.2
theorem aaK {s_1:List Clause}{f_2:Contract×Int}{r}(h:G6 s_1 f_2=some r):Bk.F (DS (s_1,f_2))=some (DT r):=aI (aU (ce dB) (aJ (Oe bn bG))) h
noncomputable def aaM:Code:=aG Tryz.f261
noncomputable def RL:Env:=b7 Tryz.prog [(162,Bp)]
noncomputable def aaL (x:(List Clause)×(Contract×Int))(r:Bool):St→Prop:=QF RL Tryz.f261 [false,false] (DS x) (DT r)
theorem Vu (s_1:List Clause)(f_2:Contract×Int)(r:Bool)(h:G6 s_1 f_2=some r):bA RL Tryz.f261 [false,false] 0 (DS (s_1,f_2)) (DT r):=by
 show Run _ _ (aaL (s_1,f_2) r) [.code aaM] _
 refine rI 9 [(0,.isl false (s_1.map au)),(1,.fn 262 [.iptr (aa f_2.1) 0,.iptr (I f_2.2) 0])] [] 1 ?_
 unfold G6 at h
 refine cq 8 [5,6] [.isl false (s_1.map au),.fn 262 [.iptr (aa f_2.1) 0,.iptr (I f_2.2) 0]] 49 ?_
 obtain⟨r3,hr3,h⟩:=bS h
 refine oq 65 (I r3) rfl (cm rfl rfl (cU rfl rfl rfl (bC (cg rfl) (bC (ow (dX (fU rfl) (dX (fU rfl) im))) dM)) (aaZ hr3) (.inr rfl) ew rfl rfl rfl)) ?_
 refine cq 3 [4] [B (decide (r3≥0))] 97 ?_
 obtain rfl:=Option.some.inj h
 exact rP [B (decide (r3≥0))]
theorem RM {G:Go.Ln.Ground}:aV Tryz.prog G 261 Bk:=gT 2 0 (aM R1 bF) ci Tryz.func261 (fun a r h=>Vu a.1 a.2 r h)
noncomputable def JN:(Contract×Int)→List V:=cA aX (oA I)
noncomputable def JO (r:Bool):V×List V:=(B r,[])
noncomputable def Hy:Ent:=bm [false,false] JN JO fun x=>Lm x.1 x.2
theorem acK {c_1:Contract}{i_2:Int}{r}(h:Lm c_1 i_2=some r):Hy.F (JN (c_1,i_2))=some (JO r):=aI (aU bn (aJ bG)) h
noncomputable def acM:Code:=aG Tryz.f232
noncomputable def X0:Env:=b7 Tryz.prog [(261,Bk)]
noncomputable def acL (x:Contract×Int)(r:Bool):St→Prop:=QF X0 Tryz.f232 [false,false] (JN x) (JO r)
theorem YM (c_1:Contract)(i_2:Int)(r:Bool)(h:Lm c_1 i_2=some r):bA X0 Tryz.f232 [false,false] 0 (JN (c_1,i_2)) (JO r):=by
 show Run _ _ (acL (c_1,i_2) r) [.code acM] _
 refine rI 9 [(0,aa c_1),(1,I i_2)] [] 1 ?_
 unfold Lm at h
 refine ck 11 [6,7] [] [1,17] [] [.isl false (c_1.Clauses.map au),.fn 262 [.hp 1 0 [] 2 0 0,.hp 17 0 [] 1 0 0]] [some ⟨0,2,[aa c_1]⟩,some ⟨0,1,[I i_2]⟩] 97 (by kernel_rfl) ?_
 obtain⟨r3,hr3,h⟩:=bS h
 refine oq 113 (B r3) rfl (cm rfl rfl (cU rfl rfl rfl (bC (cg rfl) (bC (ow (dX (ut (path:=[]) rfl rfl aW rfl rfl) (dX (ut (path:=[]) rfl rfl aW rfl rfl) im))) dM)) (aaK hr3) (.inl rfl) ew rfl rfl rfl)) ?_
 refine cq 2 [4] [B r3] 129 ?_
 obtain rfl:=Option.some.inj h
 exact rP [B r3]
theorem Ww {G:Go.Ln.Ground}:aV Tryz.prog G 232 Hy:=gT 2 0 (aM RM bF) ci Tryz.func232 (fun a r h=>YM a.1 a.2 r h)
noncomputable def JT:(Duty×Duty)→List V:=cA ah (oA (fun x:Duty=>.iptr (ah x) 0))
noncomputable def JU (r:Bool):V×List V:=(B r,[])
noncomputable def HB:Ent:=bm [false,false] JT JU fun x=>N7 x.1 x.2
theorem acR {jL:Duty}{a_2:Duty}{r}(h:N7 jL a_2=some r):HB.F (JT (jL,a_2))=some (JU r):=aI (aU eh (aJ (pb eh))) h
noncomputable def acT:Code:=aG Tryz.f243
noncomputable def X2:Env:=b7 Tryz.prog []
noncomputable def acS (x:Duty×Duty)(r:Bool):St→Prop:=QF X2 Tryz.f243 [false,false] (JT x) (JU r)
theorem YP (jL:Duty)(a_2:Duty)(r:Bool)(h:N7 jL a_2=some r):bA X2 Tryz.f243 [false,false] 0 (JT (jL,a_2)) (JU r):=by
 show Run _ _ (acS (jL,a_2) r) [.code acT] _
 refine rI 9 [(0,ah jL),(1,.iptr (ah a_2) 0)] [] 1 ?_
 unfold N7 at h
 refine cq 14 [3] [B (jL.Clause==a_2.Clause)] 129 ?_
 obtain rfl:=Option.some.inj h
 exact rP [B (jL.Clause==a_2.Clause)]
theorem Wz {G:Go.Ln.Ground}:aV Tryz.prog G 243 HB:=gT 2 0 bF ci Tryz.func243 (fun a r h=>YP a.1 a.2 r h)
noncomputable def D7:((List Duty)×Duty)→List V:=cA (fY ah) (oA (fun x:Duty=>(.fn 243 [.iptr (ah x) 0]:V)))
noncomputable def D8 (r:Int):V×List V:=(I r,[])
noncomputable def Bq:Ent:=bm [false,false] D7 D8 fun x=>Hc x.1 x.2
theorem aa0 {s_1:List Duty}{f_2:Duty}{r}(h:Hc s_1 f_2=some r):Bq.F (D7 (s_1,f_2))=some (D8 r):=aI (aU (ce eh) (aJ (jG eh))) h
noncomputable def R4:Code:=aG Tryz.f217
noncomputable def KD:Env:=b7 Tryz.prog [(243,HB)]
noncomputable def R3 (x:(List Duty)×Duty)(r:Int):St→Prop:=QF KD Tryz.f217 [false,false] (D7 x) (D8 r)
theorem MY (s_1:List Duty)(f_2:Duty):cj KD 0 (R3 (s_1,f_2)) (cL (cL (cR (cL (cR R4))))) 0 (tk s_1 f_2) (fun u=>(sT 19 [] [] 1)) fun x3=>(sT 19 [(0,.isl false (s_1.map ah)),(1,.fn 243 [.iptr (ah f_2) 0]),(7,I (len s_1)),(8,I x3)] [] 1):=ef (yX s_1 f_2) fun {Q K} hK self ih x3 y h hr hn=>by
 unfold mZ at h
 refine cq 5 [9] [B (decide (x3<(len s_1)))] 17 ?_
 refine sq h ?_ ?_<;>intro h
 ·refine aq 1 ?_
  refine cq 12 [5,11,12,13] [I x3,.fn 243 [.iptr (ah f_2) 0],.isl false (s_1.map ah),I x3] 97 ?_
  obtain⟨e4,he4,h⟩:=bS h
  refine oq 113 (.iptr (ah e4) 0) rfl (aj rfl rfl rfl (bd rfl rfl rfl rfl he4)) ?_
  refine cq 1 [15] [ah e4] 129 ?_
  obtain⟨r5,hr5,h⟩:=bS h
  refine oq 145 (B r5) rfl (cP (acR hr5)) ?_
  refine aq 1 ?_
  refine sq h ?_ ?_<;>intro h
  ·refine cq 5 [4] [I x3] 177 ?_
   exact co rfl (hr _ (ak h) _ (qp [I x3]))
  ·refine aq 1 ?_
   refine cq 5 [8] [I (ai (x3+1))] 177 ?_
   refine cZ ?_
   exact rf [0,1,7,8] [] (ih _ _ h hr hn :)
 ·refine aq 1 ?_
  exact rf [] [] (hn _ (ak h) :) (hk:=hK)
theorem VB (s_1:List Duty)(f_2:Duty)(r:Int)(h:Hc s_1 f_2=some r):bA KD Tryz.f217 [false,false] 0 (D7 (s_1,f_2)) (D8 r):=by
 show Run _ _ (R3 (s_1,f_2) r) [.code R4] _
 refine rI 19 [(0,.isl false (s_1.map ah)),(1,.fn 243 [.iptr (ah f_2) 0])] [] 1 ?_
 unfold Hc at h
 refine cq 8 [6] [.isl false (s_1.map ah)] 33 ?_
 refine oq 49 (I (len s_1)) rfl (bu rfl rfl rfl (bI rfl)) ?_
 refine cq 3 [8] [I (0)] 65 ?_
 obtain⟨y6,hy6,hy61,hy62⟩:=bJ h
 refine bN rfl ?_
 refine rf [0,1,7,8] [] (MY s_1 f_2 rfl 0 _ hy6 (fun r' e st hq=>by rw[hy61 r' e] at hq;exact hq) fun u6 hu=>?_)
 replace h:=hy62 u6 hu
 refine cq 4 [4] [I (-1)] 17 ?_
 obtain rfl:=Option.some.inj h
 exact rP [I (-1)]
theorem R5 {G:Go.Ln.Ground}:aV Tryz.prog G 217 Bq:=gT 2 0 (aM Wz bF) ci Tryz.func217 (fun a r h=>VB a.1 a.2 r h)
noncomputable def DU:((List Duty)×Duty)→List V:=cA (fY ah) (oA (fun x:Duty=>(.fn 243 [.iptr (ah x) 0]:V)))
noncomputable def DV (r:Bool):V×List V:=(B r,[])
noncomputable def Bl:Ent:=bm [false,false] DU DV fun x=>G7 x.1 x.2
theorem aaN {s_1:List Duty}{f_2:Duty}{r}(h:G7 s_1 f_2=some r):Bl.F (DU (s_1,f_2))=some (DV r):=aI (aU (ce eh) (aJ (jG eh))) h
noncomputable def aaP:Code:=aG Tryz.f169
noncomputable def RN:Env:=b7 Tryz.prog [(217,Bq)]
noncomputable def aaO (x:(List Duty)×Duty)(r:Bool):St→Prop:=QF RN Tryz.f169 [false,false] (DU x) (DV r)
theorem Vv (s_1:List Duty)(f_2:Duty)(r:Bool)(h:G7 s_1 f_2=some r):bA RN Tryz.f169 [false,false] 0 (DU (s_1,f_2)) (DV r):=by
 show Run _ _ (aaO (s_1,f_2) r) [.code aaP] _
 refine rI 9 [(0,.isl false (s_1.map ah)),(1,.fn 243 [.iptr (ah f_2) 0])] [] 1 ?_
 unfold G7 at h
 refine cq 8 [5,6] [.isl false (s_1.map ah),.fn 243 [.iptr (ah f_2) 0]] 49 ?_
 obtain⟨r3,hr3,h⟩:=bS h
 refine oq 65 (I r3) rfl (cm rfl rfl (cU rfl rfl rfl (bC (cg rfl) (bC (ow (dX (fU rfl) im)) dM)) (aa0 hr3) (.inr rfl) ew rfl rfl rfl)) ?_
 refine cq 3 [4] [B (decide (r3≥0))] 97 ?_
 obtain rfl:=Option.some.inj h
 exact rP [B (decide (r3≥0))]
theorem RO {G:Go.Ln.Ground}:aV Tryz.prog G 169 Bl:=gT 2 0 (aM R5 bF) ci Tryz.func169 (fun a r h=>Vv a.1 a.2 r h)
noncomputable def JR:(Contract×State×Int)→List V:=cA aX (cA bK (oA I))
noncomputable def JS (r:Bool):V×List V:=(B r,[])
noncomputable def HA:Ent:=bm [false,false,false] JR JS fun x=>Lp x.1 x.2.1 x.2.2
theorem acQ {c_1:Contract}{s_2:State}{i_3:Int}{r}(h:Lp c_1 s_2 i_3=some r):HA.F (JR (c_1,s_2,i_3))=some (JS r):=aI (aU bn (aU cd (aJ bG))) h
noncomputable def kc:Code:=aG Tryz.f201
noncomputable def qm:Env:=b7 Tryz.prog [(110,jf),(232,Hy),(169,Bl),(68,tT)]
noncomputable def hP (x:Contract×State×Int)(r:Bool):St→Prop:=QF qm Tryz.f201 [false,false,false] (JR x) (JS r)
theorem YO (c_1:Contract)(s_2:State)(i_3:Int)(r:Bool)(h:Lp c_1 s_2 i_3=some r):bA qm Tryz.f201 [false,false,false] 0 (JR (c_1,s_2,i_3)) (JS r):=by
 show Run _ _ (hP (c_1,s_2,i_3) r) [.code kc] _
 refine rI 114 [(0,aa c_1),(1,ae s_2),(2,I i_3)] [] 1 ?_
 unfold Lp at h
 refine ck 11 [3,4,9,10] [] [1,17] [] [.hp 1 0 [] 2 0 0,.hp 17 0 [] 5 0 0,.isl false (s_2.Duties.map ah),I i_3] [some ⟨0,2,[aa c_1]⟩,some ⟨0,5,[ae s_2]⟩] 97 (by kernel_rfl) ?_
 obtain⟨e4,he4,h⟩:=bS h
 refine oq 113 (.iptr (ah e4) 0) rfl (aj rfl rfl rfl (bd rfl rfl rfl rfl he4)) ?_
 refine ck 11 [7,14,16] [] [129] [] [.hp 129 0 [] 4 0 0,I e4.Clause,.isl false (c_1.Clauses.map au)] [some ⟨0,4,[ah e4]⟩] 225 (by kernel_rfl) ?_
 refine oq 241 (I (len c_1.Clauses)) rfl (bu rfl rfl rfl (bI rfl)) ?_
 refine cq 1 [18] [I (ai ((len c_1.Clauses) - 1))] 257 ?_
 obtain⟨r5,hr5,h⟩:=bS h
 refine oq 273 (B r5) rfl (cP (iR hr5)) ?_
 refine cq 2 [21] [B (!r5)] 305 ?_
 obtain⟨y6,hy6,hy61,hy62⟩:=bJ h
 have j6:∀u6,y6=.inr u6→Run qm 0 (hP (c_1,s_2,i_3) r) (.code (cR (cL (cR (cR kc))))::.code (cR (cR (cR kc)))::[]) (sT 114 [(2,I i_3),(3,.hp 1 0 [] 2 0 0),(4,.hp 2 0 [] 5 0 0),(7,.hp 3 0 [] 4 0 0),(38,B u6)] [⟨0,2,[aa c_1]⟩,⟨0,5,[ae s_2]⟩,⟨0,4,[ah e4]⟩] 4):=by
  intro u6 hu
  replace h:=hy62 u6 hu
  refine sq h ?_ ?_<;>intro h
  ·refine cq 4 [6] [B false] 20 ?_
   obtain rfl:=Option.some.inj h
   exact rP [B false]
  ·refine aq 1 ?_
   refine aq 2 ?_
   refine dK [0,1,0,4,0,16,0,64,240,496,1008,2044,4095,8191,16383,32767,65535,131071,262143,524287,1048575,2097151,4194303,8388607,16777215,8388607,41943039,8388607,142606335,511705087,1048575999,2122317823,4294967295,8589934591,17179869183] rfl (by decide +kernel) ?_
   refine dq [3] [] (.hp 3 0 [] 4 0 2) rfl (an rfl rfl rfl) ?_
   refine dq [3] [] (I e4.Due) rfl (aN rfl rfl) ?_
   refine dq [3] [] (.hp 3 0 [] 4 0 1) rfl (an rfl rfl rfl) ?_
   refine dq [3] [] (I e4.Since) rfl (aN rfl rfl) ?_
   refine dq [1] [] (.hp 1 0 [] 2 0 1) rfl (an rfl rfl rfl) ?_
   refine dq [1] [] (.isl false (c_1.Clauses.map au)) rfl (aN rfl rfl) ?_
   refine dq [3] [] (.hp 3 0 [] 4 0 0) rfl (an rfl rfl rfl) ?_
   refine dq [3] [] (I e4.Clause) rfl (aN rfl rfl) ?_
   obtain⟨e7,he7,h⟩:=bS h
   refine dq [] [] (.iptr (az e7) 0) rfl (aj rfl rfl rfl (bd rfl rfl rfl rfl he7)) ?_
   refine dq [] [] (.iptr (az e7) 10) rfl (an rfl rfl rfl) ?_
   refine dq [] [] (I e7.Within) rfl (aN rfl rfl) ?_
   refine dk 3 [52,51,50] [B (e4.Due != (ai (e4.Since+e7.Within))),B (e4.Due != (ai (e4.Since+e7.Within))),I (ai (e4.Since+e7.Within))] ?_
   obtain⟨y8,hy8,hy81,hy82⟩:=bJ h
   have j8:∀u8,y8=.inr u8→Run qm 0 (hP (c_1,s_2,i_3) r) (.code (cR (cL (cR (cR (cR kc)))))::.code (cR (cR (cR (cR kc))))::[]) (sT 114 [(2,I i_3),(3,.hp 1 0 [] 2 0 0),(4,.hp 2 0 [] 5 0 0),(7,.hp 3 0 [] 4 0 0),(73,B u8)] [⟨0,2,[aa c_1]⟩,⟨0,5,[ae s_2]⟩,⟨0,4,[ah e4]⟩] 4):=by
    intro u8 hu
    replace h:=hy82 u8 hu
    refine sq h ?_ ?_<;>intro h
    ·refine cq 4 [6] [B false] 20 ?_
     obtain rfl:=Option.some.inj h
     exact rP [B false]
    ·refine aq 1 ?_
     refine cq 6 [74,76] [aa c_1,I e4.Clause] 52 ?_
     obtain⟨r9,hr9,h⟩:=bS h
     refine oq 68 (B r9) rfl (cP (acK hr9)) ?_
     refine cq 2 [79] [B (!r9)] 100 ?_
     obtain⟨y10,hy10,hy101,hy102⟩:=bJ h
     have j10:∀u10,y10=.inr u10→Run qm 0 (hP (c_1,s_2,i_3) r) (.code (cR (cL (cR (cR (cR (cR kc))))))::.code (cR (cR (cR (cR (cR kc)))))::[]) (sT 114 [(4,.hp 1 0 [] 5 0 0),(7,.hp 2 0 [] 4 0 0),(86,B u10)] [⟨0,5,[ae s_2]⟩,⟨0,4,[ah e4]⟩] 3):=by
      intro u10 hu
      replace h:=hy102 u10 hu
      refine sq h ?_ ?_<;>intro h
      ·refine cq 4 [6] [B false] 19 ?_
       obtain rfl:=Option.some.inj h
       exact rP [B false]
      ·refine aq 1 ?_
       refine cq 12 [88,89] [I e4.Status,B (e4.Status==1)] 67 ?_
       refine sq h ?_ ?_<;>intro h
       ·refine cq 8 [96] [B (decide (e4.Due≥s_2.Day))] 163 ?_
        obtain⟨u11,hu11,h⟩:=lJ h
        have j11:Run qm 0 (hP (c_1,s_2,i_3) r) (.code (cR (cL (cR (cL (cR (cL (cR (cR (cR (cR (cR kc)))))))))))::.blk 0::.code (cR (cR (cR (cR (cR (cR kc))))))::[]) (sT 114 [(6,B u11)] [] 1):=by
         obtain rfl:=Option.some.inj h
         exact rP [B u11]
        replace h:=hu11
        clear hu11
        refine sp 96 h rfl ?_ ?_<;>intro h
        ·refine cq 6 [6] [B (!s_2.Over)] 243 ?_
         subst h
         exact rf [6] [] (j11 :)
        ·refine cq 6 [6] [B false] 243 ?_
         subst h
         exact rf [6] [] (j11 :)
       ·refine cq 5 [101] [B (e4.Status==2)] 99 ?_
        refine sq h ?_ ?_<;>intro h
        ·refine cq 4 [6] [B true] 115 ?_
         obtain rfl:=Option.some.inj h
         exact rP [B true]
        ·refine cq 5 [103] [B (e4.Status==3)] 131 ?_
         refine sq h ?_ ?_<;>intro h
         ·refine cq 9 [6] [B (decide (e4.Due<s_2.Day))] 227 ?_
          obtain rfl:=Option.some.inj h
          exact rP [B (decide (e4.Due<s_2.Day))]
         ·refine cq 5 [110] [B (e4.Status==4)] 163 ?_
          refine sq h ?_ ?_<;>intro h
          ·refine cq 6 [6] [B s_2.Over] 211 ?_
           obtain rfl:=Option.some.inj h
           exact rP [B s_2.Over]
          ·refine aq 1 ?_
           refine cq 5 [6] [B false] 179 ?_
           obtain rfl:=Option.some.inj h
           exact rP [B false]
     have r10:∀r',y10=.inl r'→∀st,hP (c_1,s_2,i_3) r' st→(hP (c_1,s_2,i_3) r) st:=fun r' e st hq=>by rw[hy101 r' e] at hq;exact hq
     replace h:=hy10
     refine sp 79 h rfl ?_ ?_<;>intro h
     ·refine cq 3 [81,82] [.isl false (s_2.Duties.map ah),I i_3] 148 ?_
      obtain⟨s12,hs12,h⟩:=bS h
      refine oy 164 (.isl false (s12.map ah)) rfl (hY rfl rfl rfl rfl (xN rfl rfl (fun y=>(HK y).1) rfl rfl hs12)) ?_
      refine cq 1 [84] [.fn 243 [.hp 3 0 [] 4 0 0]] 180 ?_
      obtain⟨r13,hr13,h⟩:=bS h
      refine oy 196 (B r13) rfl (cm rfl rfl (cU rfl rfl rfl (bC (cg rfl) (bC (ow (dX (ut (path:=[]) rfl rfl aW rfl rfl) im)) dM)) (aaN hr13) (.inl rfl) ew rfl rfl rfl)) ?_
      refine cq 2 [86] [B r13] 212 ?_
      exact rf [4,7,86] [2,3] (j10 _ (ak h) :)
     ·refine cq 8 [86] [B false] 212 ?_
      exact rf [4,7,86] [2,3] (j10 _ (ak h) :)
   have r8:∀r',y8=.inl r'→∀st,hP (c_1,s_2,i_3) r' st→(hP (c_1,s_2,i_3) r) st:=fun r' e st hq=>by rw[hy81 r' e] at hq;exact hq
   replace h:=hy8
   refine sp 52 h rfl ?_ ?_<;>intro h
   ·refine dk 21 [73,72,71,70,69,68,67,66,65,64,63,62,61,60,59,58,57,56,55,54,53] [B true,.und,.und,.und,.und,.und,.und,.und,.und,.und,.und,.und,.und,.und,.und,B true,B true,.und,.und,.und,.und] ?_
    refine de 564 rfl rfl ?_
    exact rf [2,3,4,7,73] [1,2,3] (j8 _ (ak h) :)
   ·refine dy [3] [] (.hp 3 0 [] 4 0 2) rfl (an rfl rfl rfl) ?_
    refine dy [3] [] (I e4.Due) rfl (aN rfl rfl) ?_
    obtain⟨r14,hr14,h⟩:=bS h
    refine dy [] [] (B r14) rfl (cP (vc hr14)) ?_ (dU rfl rfl rfl rfl (bC (cg rfl) dM) (vc hr14) (.inr rfl) rfl)
    refine dk 3 [58,57,56] [B (!r14),B (!r14),B (!r14)] ?_
    obtain⟨y15,hy15,hy151,hy152⟩:=bL h
    have j15:∀u15,y15=.inr u15→Run qm 0 (hP (c_1,s_2,i_3) r) (.code (cR (cL (cR (cR (cR kc)))))::.code (cR (cR (cR (cR kc))))::[]) (sT 114 [(2,I i_3),(3,.hp 1 0 [] 2 0 0),(4,.hp 2 0 [] 5 0 0),(7,.hp 3 0 [] 4 0 0),(73,B u15)] [⟨0,2,[aa c_1]⟩,⟨0,5,[ae s_2]⟩,⟨0,4,[ah e4]⟩] 4):=by
     intro u15 hu
     replace h:=hy152 u15 hu
     exact rf [2,3,4,7,73] [1,2,3] (j8 _ (ak h) :)
    have r15:∀r',y15=.inl r'→∀st,hP (c_1,s_2,i_3) r' st→(hP (c_1,s_2,i_3) r) st:=fun r' e st hq=>r8 r' (hy151 r' e) st hq
    replace h:=hy15
    refine sp 58 h rfl ?_ ?_<;>intro h
    ·refine dk 15 [73,72,71,70,69,68,67,66,65,64,63,62,61,60,59] [B true,.und,.und,.und,.und,.und,.und,.und,.und,.und,.und,.und,.und,.und,.und] ?_
     refine de 564 rfl rfl ?_
     exact rf [2,3,4,7,73] [1,2,3] (j15 _ (ak h) :)
    ·refine dk 3 [61,60,59] [B (decide (i_3>0)),B (decide (i_3>0)),I i_3] ?_
     obtain⟨y16,hy16,hy161,hy162⟩:=bL h
     have j16:∀u16,y16=.inr u16→Run qm 0 (hP (c_1,s_2,i_3) r) (.code (cR (cL (cR (cR (cR kc)))))::.code (cR (cR (cR (cR kc))))::[]) (sT 114 [(2,I i_3),(3,.hp 1 0 [] 2 0 0),(4,.hp 2 0 [] 5 0 0),(7,.hp 3 0 [] 4 0 0),(73,B u16)] [⟨0,2,[aa c_1]⟩,⟨0,5,[ae s_2]⟩,⟨0,4,[ah e4]⟩] 4):=by
      intro u16 hu
      replace h:=hy162 u16 hu
      exact rf [2,3,4,7,73] [1,2,3] (j15 _ (ak h) :)
     have r16:∀r',y16=.inl r'→∀st,hP (c_1,s_2,i_3) r' st→(hP (c_1,s_2,i_3) r) st:=fun r' e st hq=>r15 r' (hy161 r' e) st hq
     replace h:=hy16
     refine sp 61 h rfl ?_ ?_<;>intro h
     ·refine dy [3] [] (.hp 3 0 [] 4 0 1) rfl (an rfl rfl rfl) ?_
      refine dy [3] [] (I e4.Since) rfl (aN rfl rfl) ?_
      refine dy [2] [] (.hp 2 0 [] 5 0 2) rfl (an rfl rfl rfl) ?_
      refine dy [2] [] (.isl false (s_2.Duties.map ah)) rfl (aN rfl rfl) ?_
      refine dk 2 [67,66] [I (ai (i_3 - 1)),I i_3] ?_
      obtain⟨e17,he17,h⟩:=bS h
      refine dy [] [] (.iptr (ah e17) 0) rfl (aj rfl rfl rfl (bd rfl rfl rfl rfl he17)) ?_
      refine dy [] [] (.iptr (ah e17) 1) rfl (an rfl rfl rfl) ?_
      refine dy [] [] (I e17.Since) rfl (aN rfl rfl) ?_
      refine dk 3 [73,72,71] [B (decide (e4.Since<e17.Since)),B (decide (e4.Since<e17.Since)),B (decide (e4.Since<e17.Since))] ?_
      refine de 564 rfl rfl ?_
      exact rf [2,3,4,7,73] [1,2,3] (j16 _ (ak h) :)
     ·refine dk 12 [73,72,71,70,69,68,67,66,65,64,63,62] [B false,B false,.und,.und,.und,.und,.und,.und,.und,.und,.und,.und] ?_
      refine de 564 rfl rfl ?_
      exact rf [2,3,4,7,73] [1,2,3] (j16 _ (ak h) :)
 have r6:∀r',y6=.inl r'→∀st,hP (c_1,s_2,i_3) r' st→(hP (c_1,s_2,i_3) r) st:=fun r' e st hq=>by rw[hy61 r' e] at hq;exact hq
 replace h:=hy6
 refine sp 21 h rfl ?_ ?_<;>intro h
 ·refine cq 18 [38] [B true] 577 ?_
  exact rf [2,3,4,7,38] [1,17,129] (j6 _ (ak h) :)
 ·refine cq 4 [23,25] [.isl false (c_1.Clauses.map au),I e4.Clause] 369 ?_
  obtain⟨e18,he18,h⟩:=bS h
  refine oy 385 (.iptr (az e18) 0) rfl (aj rfl rfl rfl (bd rfl rfl rfl rfl he18)) ?_
  refine cq 5 [31] [B (e18.Kind != 1)] 465 ?_
  obtain⟨y19,hy19,hy191,hy192⟩:=bL h
  have j19:∀u19,y19=.inr u19→Run qm 0 (hP (c_1,s_2,i_3) r) (.code (cR (cL (cR (cR kc))))::.code (cR (cR (cR kc)))::[]) (sT 114 [(2,I i_3),(3,.hp 1 0 [] 2 0 0),(4,.hp 2 0 [] 5 0 0),(7,.hp 3 0 [] 4 0 0),(38,B u19)] [⟨0,2,[aa c_1]⟩,⟨0,5,[ae s_2]⟩,⟨0,4,[ah e4]⟩] 4):=by
   intro u19 hu
   replace h:=hy192 u19 hu
   exact rf [2,3,4,7,38] [1,2,3] (j6 _ (ak h) :)
  have r19:∀r',y19=.inl r'→∀st,hP (c_1,s_2,i_3) r' st→(hP (c_1,s_2,i_3) r) st:=fun r' e st hq=>r6 r' (hy191 r' e) st hq
  replace h:=hy19
  refine sp 31 h rfl ?_ ?_<;>intro h
  ·refine cq 8 [38] [B true] 577 ?_
   exact rf [2,3,4,7,38] [1,17,129] (j19 _ (ak h) :)
  ·refine cq 4 [33,35] [I e4.Since,I s_2.Day] 529 ?_
   obtain⟨r20,hr20,h⟩:=bS h
   refine oy 545 (B r20) rfl (cP (iR hr20)) ?_
   refine cq 3 [38] [B (!r20)] 577 ?_
   exact rf [2,3,4,7,38] [1,17,129] (j19 _ (ak h) :)
theorem Wy {G:Go.Ln.Ground}:aV Tryz.prog G 201 HA:=gT 3 0 (aM jP (aM Ww (aM RO (aM Cf bF)))) ci Tryz.func201 (fun a r h=>YO a.1 a.2.1 a.2.2 r h)
noncomputable def JH:Int→List V:=oA I
noncomputable def JI (r:Bool):V×List V:=(B r,[])
noncomputable def Hw:Ent:=bm [false] JH JI fun x=>N6 x
theorem acE {x_1:Int}{r}(h:N6 x_1=some r):Hw.F (JH x_1)=some (JI r):=aI (aJ bG) h
noncomputable def acG:Code:=aG Tryz.f203
noncomputable def XY:Env:=b7 Tryz.prog [(110,jf)]
noncomputable def acF (x:Int)(r:Bool):St→Prop:=QF XY Tryz.f203 [false] (JH x) (JI r)
theorem YJ (x_1:Int)(r:Bool)(h:N6 x_1=some r):bA XY Tryz.f203 [false] 0 (JH x_1) (JI r):=by
 show Run _ _ (acF x_1 r) [.code acG] _
 refine rI 5 [(0,I x_1)] [] 1 ?_
 unfold N6 at h
 refine cq 7 [3] [I x_1] 33 ?_
 obtain⟨r2,hr2,h⟩:=bS h
 refine oq 49 (B r2) rfl (cP (iR hr2)) ?_
 refine cq 2 [2] [B r2] 65 ?_
 obtain rfl:=Option.some.inj h
 exact rP [B r2]
theorem Wu {G:Go.Ln.Ground}:aV Tryz.prog G 203 Hw:=gT 1 0 (aM jP bF) ci Tryz.func203 (fun a r h=>YJ a r h)
noncomputable def CJ:Int→List V:=oA I
noncomputable def CK (r:Bool):V×List V:=(B r,[])
noncomputable def Am:Ent:=bm [false] CJ CK fun x=>Al x
theorem ZI {b_1:Int}{r}(h:Al b_1=some r):Am.F (CJ b_1)=some (CK r):=aI (aJ bG) h
noncomputable def ZK:Code:=aG Tryz.f202
noncomputable def Qh:Env:=b7 Tryz.prog [(203,Hw)]
noncomputable def ZJ (x:Int)(r:Bool):St→Prop:=QF Qh Tryz.f202 [false] (CJ x) (CK r)
theorem UN (b_1:Int)(r:Bool)(h:Al b_1=some r):bA Qh Tryz.f202 [false] 0 (CJ b_1) (CK r):=by
 show Run _ _ (ZJ b_1 r) [.code ZK] _
 refine rI 6 [(0,I b_1)] [] 1 ?_
 unfold Al at h
 refine cq 7 [3] [I b_1] 33 ?_
 obtain⟨r2,hr2,h⟩:=bS h
 refine oq 49 (B r2) rfl (cP (acE hr2)) ?_
 refine cq 3 [2] [B (!r2)] 81 ?_
 obtain rfl:=Option.some.inj h
 exact rP [B (!r2)]
theorem Qi {G:Go.Ln.Ground}:aV Tryz.prog G 202 Am:=gT 1 0 (aM Wu bF) ci Tryz.func202 (fun a r h=>UN a r h)
noncomputable def D9:((List Int)×Unit)→List V:=cA (fY I) (oA (fun x:Unit=>(.fn 202 []:V)))
noncomputable def Ea (r:Int):V×List V:=(I r,[])
noncomputable def Br:Ent:=bm [false,false] D9 Ea fun x=>Hd x.1 x.2
theorem aa1 {s_1:List Int}{f_2:Unit}{r}(h:Hd s_1 f_2=some r):Br.F (D9 (s_1,f_2))=some (Ea r):=aI (aU (ce bG) (aJ (HO ))) h
noncomputable def R7:Code:=aG Tryz.f206
noncomputable def KE:Env:=b7 Tryz.prog [(202,Am)]
noncomputable def R6 (x:(List Int)×Unit)(r:Int):St→Prop:=QF KE Tryz.f206 [false,false] (D9 x) (Ea r)
theorem MZ (s_1:List Int)(f_2:Unit):cj KE 0 (R6 (s_1,f_2)) (cL (cL (cR (cL (cR R7))))) 0 (tn s_1 f_2) (fun u=>(sT 19 [] [] 1)) fun x3=>(sT 19 [(0,.isl false (s_1.map I)),(1,.fn 202 []),(7,I (len s_1)),(8,I x3)] [] 1):=ef (yY s_1 f_2) fun {Q K} hK self ih x3 y h hr hn=>by
 unfold na at h
 refine cq 5 [9] [B (decide (x3<(len s_1)))] 17 ?_
 refine sq h ?_ ?_<;>intro h
 ·refine aq 1 ?_
  refine cq 12 [5,11,12,13] [I x3,.fn 202 [],.isl false (s_1.map I),I x3] 97 ?_
  obtain⟨e4,he4,h⟩:=bS h
  refine oq 113 (.iptr (I e4) 0) rfl (aj rfl rfl rfl (bd rfl rfl rfl rfl he4)) ?_
  refine cq 1 [15] [I e4] 129 ?_
  obtain⟨r5,hr5,h⟩:=bS h
  refine oq 145 (B r5) rfl (cP (ZI hr5)) ?_
  refine aq 1 ?_
  refine sq h ?_ ?_<;>intro h
  ·refine cq 5 [4] [I x3] 177 ?_
   exact co rfl (hr _ (ak h) _ (qp [I x3]))
  ·refine aq 1 ?_
   refine cq 5 [8] [I (ai (x3+1))] 177 ?_
   refine cZ ?_
   exact rf [0,1,7,8] [] (ih _ _ h hr hn :)
 ·refine aq 1 ?_
  exact rf [] [] (hn _ (ak h) :) (hk:=hK)
theorem VC (s_1:List Int)(f_2:Unit)(r:Int)(h:Hd s_1 f_2=some r):bA KE Tryz.f206 [false,false] 0 (D9 (s_1,f_2)) (Ea r):=by
 show Run _ _ (R6 (s_1,f_2) r) [.code R7] _
 refine rI 19 [(0,.isl false (s_1.map I)),(1,.fn 202 [])] [] 1 ?_
 unfold Hd at h
 refine cq 8 [6] [.isl false (s_1.map I)] 33 ?_
 refine oq 49 (I (len s_1)) rfl (bu rfl rfl rfl (bI rfl)) ?_
 refine cq 3 [8] [I (0)] 65 ?_
 obtain⟨y6,hy6,hy61,hy62⟩:=bJ h
 refine bN rfl ?_
 refine rf [0,1,7,8] [] (MZ s_1 f_2 rfl 0 _ hy6 (fun r' e st hq=>by rw[hy61 r' e] at hq;exact hq) fun u6 hu=>?_)
 replace h:=hy62 u6 hu
 refine cq 4 [4] [I (-1)] 17 ?_
 obtain rfl:=Option.some.inj h
 exact rP [I (-1)]
theorem R8 {G:Go.Ln.Ground}:aV Tryz.prog G 206 Br:=gT 2 0 (aM Qi bF) ci Tryz.func206 (fun a r h=>VC a.1 a.2 r h)
noncomputable def DW:((List Int)×Unit)→List V:=cA (fY I) (oA (fun x:Unit=>(.fn 202 []:V)))
noncomputable def DX (r:Bool):V×List V:=(B r,[])
noncomputable def Bm:Ent:=bm [false,false] DW DX fun x=>G8 x.1 x.2
theorem aaQ {s_1:List Int}{f_2:Unit}{r}(h:G8 s_1 f_2=some r):Bm.F (DW (s_1,f_2))=some (DX r):=aI (aU (ce bG) (aJ (HO ))) h
noncomputable def aaS:Code:=aG Tryz.f153
noncomputable def RP:Env:=b7 Tryz.prog [(206,Br)]
noncomputable def aaR (x:(List Int)×Unit)(r:Bool):St→Prop:=QF RP Tryz.f153 [false,false] (DW x) (DX r)
theorem Vw (s_1:List Int)(f_2:Unit)(r:Bool)(h:G8 s_1 f_2=some r):bA RP Tryz.f153 [false,false] 0 (DW (s_1,f_2)) (DX r):=by
 show Run _ _ (aaR (s_1,f_2) r) [.code aaS] _
 refine rI 9 [(0,.isl false (s_1.map I)),(1,.fn 202 [])] [] 1 ?_
 unfold G8 at h
 refine cq 8 [5,6] [.isl false (s_1.map I),.fn 202 []] 49 ?_
 obtain⟨r3,hr3,h⟩:=bS h
 refine oq 65 (I r3) rfl (cP (aa1 hr3)) ?_
 refine cq 3 [4] [B (decide (r3≥0))] 97 ?_
 obtain rfl:=Option.some.inj h
 exact rP [B (decide (r3≥0))]
theorem RQ {G:Go.Ln.Ground}:aV Tryz.prog G 153 Bm:=gT 2 0 (aM R8 bF) ci Tryz.func153 (fun a r h=>Vw a.1 a.2 r h)
noncomputable def JY:(Contract×State)→List V:=cA aX (oA bK)
noncomputable def JZ (r:Bool):V×List V:=(B r,[])
noncomputable def HD:Ent:=bm [false,false] JY JZ fun x=>Lr x.1 x.2
theorem acV {c_1:Contract}{s_2:State}{r}(h:Lr c_1 s_2=some r):HD.F (JY (c_1,s_2))=some (JZ r):=aI (aU bn (aJ cd)) h
noncomputable def pn:Code:=aG Tryz.f149
noncomputable def vd:Env:=b7 Tryz.prog [(137,yh),(68,tT),(201,HA),(153,Bm),(200,Ap),(197,HC),(198,Bn)]
noncomputable def kT (x:Contract×State)(r:Bool):St→Prop:=QF vd Tryz.f149 [false,false] (JY x) (JZ r)
theorem Pp (c_1:Contract)(s_2:State):cj vd 0 (kT (c_1,s_2)) (cL (cL (cR (cL (cR (cR (cR (cR pn)))))))) 0 (pL c_1 s_2) (fun u=>(sT 60 [(3,.hp 1 0 [] 5 0 0)] [⟨0,5,[ae s_2]⟩] 2)) fun x7=>(sT 60 [(2,.hp 1 0 [] 2 0 0),(3,.hp 2 0 [] 5 0 0),(46,I (len s_2.Duties)),(47,I x7)] [⟨0,2,[aa c_1]⟩,⟨0,5,[ae s_2]⟩] 3):=ef (F3 c_1 s_2) fun {Q K} hK self ih x7 y h hr hn=>by
 unfold mG at h
 refine cq 5 [48] [B (decide (x7<(len s_2.Duties)))] 19 ?_
 refine sq h ?_ ?_<;>intro h
 ·refine aq 1 ?_
  refine cq 12 [50,51,52] [aa c_1,ae s_2,I x7] 99 ?_
  obtain⟨r8,hr8,h⟩:=bS h
  refine oq 115 (B r8) rfl (cP (acQ hr8)) ?_
  refine cq 2 [54] [B (!r8)] 131 ?_
  refine sq h ?_ ?_<;>intro h
  ·refine cq 4 [4] [B false] 147 ?_
   exact co rfl (hr _ (ak h) _ (qp [B false]))
  ·refine aq 1 ?_
   refine cq 5 [47] [I (ai (x7+1))] 163 ?_
   refine cZ ?_
   exact rf [2,3,46,47] [1,2] (ih _ _ h hr hn :)
 ·refine aq 1 ?_
  exact rf [3] [2] (hn _ (ak h) :) (hk:=hK)
theorem YR (c_1:Contract)(s_2:State)(r:Bool)(h:Lr c_1 s_2=some r):bA vd Tryz.f149 [false,false] 0 (JY (c_1,s_2)) (JZ r):=by
 show Run _ _ (kT (c_1,s_2) r) [.code pn] _
 refine rI 60 [(0,aa c_1),(1,ae s_2)] [] 1 ?_
 unfold Lr at h
 refine ck 9 [2,3,7] [] [1,17] [] [.hp 1 0 [] 2 0 0,.hp 17 0 [] 5 0 0,aa c_1] [some ⟨0,2,[aa c_1]⟩,some ⟨0,5,[ae s_2]⟩] 65 (by kernel_rfl) ?_
 obtain⟨r3,hr3,h⟩:=bS h
 refine oq 81 (.hs 65 0 [] 1 0 (r3.map str).length) rfl (cP (XV hr3)) ?_
 refine ck 1 [5] [] [81] [] [.hp 81 0 [] 1 0 0] [some ⟨0,1,[.isl true []]⟩] 97 (by kernel_rfl) ?_
 refine fI 81 [.usl 1 (([]).map str)] rfl rfl (aL (.nil _) eL) ?_
 refine o0 113 rfl rfl (fQ rfl rfl (eY (path:=[]) (pl:=false) (e':=.usl 1 (r3.map str)) (es2':=[.usl 1 (r3.map str)]) rfl (gc rfl (dV rfl rfl)) rfl rfl rfl aW rfl rfl rfl rfl rfl ey 2 rfl)) ?_
 refine cq 6 [10] [I s_2.Day] 145 ?_
 obtain⟨r4,hr4,h⟩:=bS h
 refine oq 161 (B r4) rfl (cP (vc hr4)) ?_
 refine cq 2 [13] [B (!r4)] 193 ?_
 obtain⟨y5,hy5,hy51,hy52⟩:=bJ h
 have j5:∀u5,y5=.inr u5→Run vd 0 (kT (c_1,s_2) r) (.code (cR (cL (cR (cR pn))))::.code (cR (cR (cR pn)))::[]) (sT 60 [(2,.hp 1 0 [] 2 0 0),(3,.hp 2 0 [] 5 0 0),(24,B u5)] [⟨0,2,[aa c_1]⟩,⟨0,5,[ae s_2]⟩] 3):=by
  intro u5 hu
  replace h:=hy52 u5 hu
  refine sq h ?_ ?_<;>intro h
  ·refine cq 4 [4] [B false] 19 ?_
   obtain rfl:=Option.some.inj h
   exact rP [B false]
  ·refine aq 1 ?_
   refine cq 5 [26] [.isl false (s_2.Duties.map ah)] 35 ?_
   refine oq 51 (I (len s_2.Duties)) rfl (bu rfl rfl rfl (bI rfl)) ?_
   refine cq 2 [29] [B (decide ((len s_2.Duties)>24))] 83 ?_
   obtain⟨y6,hy6,hy61,hy62⟩:=bJ h
   have j6:∀u6,y6=.inr u6→Run vd 0 (kT (c_1,s_2) r) (.code (cR (cL (cR (cR (cR pn)))))::.code (cR (cR (cR (cR pn))))::[]) (sT 60 [(2,.hp 1 0 [] 2 0 0),(3,.hp 2 0 [] 5 0 0),(43,B u6)] [⟨0,2,[aa c_1]⟩,⟨0,5,[ae s_2]⟩] 3):=by
    intro u6 hu
    replace h:=hy62 u6 hu
    refine sq h ?_ ?_<;>intro h
    ·refine cq 4 [4] [B false] 19 ?_
     obtain rfl:=Option.some.inj h
     exact rP [B false]
    ·refine aq 1 ?_
     refine cq 5 [45] [.isl false (s_2.Duties.map ah)] 35 ?_
     refine oq 51 (I (len s_2.Duties)) rfl (bu rfl rfl rfl (bI rfl)) ?_
     refine cq 3 [47] [I (0)] 67 ?_
     obtain⟨y9,hy9,hy91,hy92⟩:=bJ h
     refine bN rfl ?_
     refine rf [2,3,46,47] [1,2] (Pp c_1 s_2 rfl 0 _ hy9 (fun r' e st hq=>by rw[hy91 r' e] at hq;exact hq) fun u9 hu=>?_)
     replace h:=hy92 u9 hu
     refine cq 4 [57] [.isl false (s_2.Balances.map I)] 34 ?_
     obtain⟨r10,hr10,h⟩:=bS h
     refine oq 50 (B r10) rfl (cP (aaQ hr10)) ?_
     refine cq 3 [4] [B (!r10)] 82 ?_
     obtain rfl:=Option.some.inj h
     exact rP [B (!r10)]
   have r6:∀r',y6=.inl r'→∀st,kT (c_1,s_2) r' st→(kT (c_1,s_2) r) st:=fun r' e st hq=>by rw[hy61 r' e] at hq;exact hq
   replace h:=hy6
   refine sp 29 h rfl ?_ ?_<;>intro h
   ·refine cq 15 [43] [B true] 307 ?_
    exact rf [2,3,43] [1,2] (j6 _ (ak h) :)
   ·refine cq 2 [31] [.isl false (s_2.Balances.map I)] 115 ?_
    refine oy 131 (I (len s_2.Balances)) rfl (bu rfl rfl rfl (bI rfl)) ?_
    refine cq 2 [34] [.isl false (c_1.Parties.map str)] 163 ?_
    refine oy 179 (I (len c_1.Parties)) rfl (bu rfl rfl rfl (bI rfl)) ?_
    refine cq 3 [38] [B ((len s_2.Balances) != (len c_1.Parties))] 227 ?_
    obtain⟨y11,hy11,hy111,hy112⟩:=bL h
    have j11:∀u11,y11=.inr u11→Run vd 0 (kT (c_1,s_2) r) (.code (cR (cL (cR (cR (cR pn)))))::.code (cR (cR (cR (cR pn))))::[]) (sT 60 [(2,.hp 1 0 [] 2 0 0),(3,.hp 2 0 [] 5 0 0),(43,B u11)] [⟨0,2,[aa c_1]⟩,⟨0,5,[ae s_2]⟩] 3):=by
     intro u11 hu
     replace h:=hy112 u11 hu
     exact rf [2,3,43] [1,2] (j6 _ (ak h) :)
    have r11:∀r',y11=.inl r'→∀st,kT (c_1,s_2) r' st→(kT (c_1,s_2) r) st:=fun r' e st hq=>r6 r' (hy111 r' e) st hq
    replace h:=hy11
    refine sp 38 h rfl ?_ ?_<;>intro h
    ·refine cq 6 [43] [B true] 307 ?_
     exact rf [2,3,43] [1,2] (j11 _ (ak h) :)
    ·refine cq 2 [40] [.isl false (s_2.Balances.map I)] 259 ?_
     obtain⟨r12,hr12,h⟩:=bS h
     refine oy 275 (I r12) rfl (cP (ZO hr12)) ?_
     refine cq 3 [43] [B (r12 != 0)] 307 ?_
     exact rf [2,3,43] [1,2] (j11 _ (ak h) :)
 have r5:∀r',y5=.inl r'→∀st,kT (c_1,s_2) r' st→(kT (c_1,s_2) r) st:=fun r' e st hq=>by rw[hy51 r' e] at hq;exact hq
 replace h:=hy5
 refine sp 13 h rfl ?_ ?_<;>intro h
 ·refine cq 12 [24] [B true] 369 ?_
  exact rf [2,3,24] [1,17] (j5 _ (ak h) :)
 ·refine cq 2 [15] [.isl false (s_2.Facts.map str)] 225 ?_
  obtain⟨r13,hr13,h⟩:=bS h
  refine oy 241 (B r13) rfl (cP (acU hr13)) ?_
  refine cq 3 [19] [B (!r13)] 289 ?_
  obtain⟨y14,hy14,hy141,hy142⟩:=bL h
  have j14:∀u14,y14=.inr u14→Run vd 0 (kT (c_1,s_2) r) (.code (cR (cL (cR (cR pn))))::.code (cR (cR (cR pn)))::[]) (sT 60 [(2,.hp 1 0 [] 2 0 0),(3,.hp 2 0 [] 5 0 0),(24,B u14)] [⟨0,2,[aa c_1]⟩,⟨0,5,[ae s_2]⟩] 3):=by
   intro u14 hu
   replace h:=hy142 u14 hu
   exact rf [2,3,24] [1,2] (j5 _ (ak h) :)
  have r14:∀r',y14=.inl r'→∀st,kT (c_1,s_2) r' st→(kT (c_1,s_2) r) st:=fun r' e st hq=>r5 r' (hy141 r' e) st hq
  replace h:=hy14
  refine sp 19 h rfl ?_ ?_<;>intro h
  ·refine cq 6 [24] [B true] 369 ?_
   exact rf [2,3,24] [1,17] (j14 _ (ak h) :)
  ·refine cq 3 [21,22] [.isl false (s_2.Facts.map str),.fn 199 [.hp 81 0 [] 1 0 0]] 337 ?_
   obtain⟨r15,hr15,h⟩:=bS h
   refine oy 353 (B r15) rfl (cm rfl rfl (cU rfl rfl rfl (bC (cg rfl) (bC (ow (dX (ut (path:=[]) rfl rfl aW rfl (X9 (cG fZ))) im)) dM)) (aaT hr15) (.inl rfl) ew rfl rfl rfl)) ?_
   refine cq 2 [24] [B r15] 369 ?_
   exact rf [2,3,24] [1,17] (j14 _ (ak h) :)
theorem WB {G:Go.Ln.Ground}:aV Tryz.prog G 149 HD:=gT 2 0 (aM Lh (aM Cf (aM Wy (aM RQ (aM Qn (aM WA (aM RS bF))))))) ci Tryz.func149 (fun a r h=>YR a.1 a.2 r h)
noncomputable def Jl:(Contract×State)→List V:=cA aX (oA bK)
noncomputable def Jn (r:Bool):V×List V:=(B r,[])
noncomputable def Hn:Ent:=bm [false,false] Jl Jn fun x=>Ie x.1 x.2
theorem acn {c_1:Contract}{s_2:State}{r}(h:Ie c_1 s_2=some r):Hn.F (Jl (c_1,s_2))=some (Jn r):=aI (aU bn (aJ cd)) h
noncomputable def XL:Code:=aG Tryz.f85
noncomputable def Pe:Env:=b7 Tryz.prog [(67,Hf),(149,HD)]
noncomputable def Jm (x:Contract×State)(r:Bool):St→Prop:=QF Pe Tryz.f85 [false,false] (Jl x) (Jn r)
theorem Yw (c_1:Contract)(s_2:State)(r:Bool)(h:Ie c_1 s_2=some r):bA Pe Tryz.f85 [false,false] 0 (Jl (c_1,s_2)) (Jn r):=by
 show Run _ _ (Jm (c_1,s_2) r) [.code XL] _
 refine rI 12 [(0,aa c_1),(1,ae s_2)] [] 1 ?_
 unfold Ie at h
 refine ck 9 [2,3,5] [] [1,17] [] [.hp 1 0 [] 2 0 0,.hp 17 0 [] 5 0 0,aa c_1] [some ⟨0,2,[aa c_1]⟩,some ⟨0,5,[ae s_2]⟩] 65 (by kernel_rfl) ?_
 obtain⟨r3,hr3,h⟩:=bS h
 refine oq 81 (B r3) rfl (cP (acm hr3)) ?_
 refine cq 1 [7] [B r3] 97 ?_
 obtain⟨y4,hy4,hy41,hy42⟩:=bJ h
 have j4:∀u4,y4=.inr u4→Run Pe 0 (Jm (c_1,s_2) r) (.code (cR (cR XL))::[]) (sT 12 [(4,B u4)] [] 1):=by
  intro u4 hu
  replace h:=hy42 u4 hu
  obtain rfl:=Option.some.inj h
  exact rP [B u4]
 have r4:∀r',y4=.inl r'→∀st,Jm (c_1,s_2) r' st→(Jm (c_1,s_2) r) st:=fun r' e st hq=>by rw[hy41 r' e] at hq;exact hq
 replace h:=hy4
 refine sp 7 h rfl ?_ ?_<;>intro h
 ·refine cq 2 [8,9] [aa c_1,ae s_2] 129 ?_
  obtain⟨r5,hr5,h⟩:=bS h
  refine oy 145 (B r5) rfl (cP (acV hr5)) ?_
  refine cq 3 [4] [B r5] 177 ?_
  exact rf [4] [] (j4 _ (ak h) :)
 ·refine cq 6 [4] [B false] 177 ?_
  exact rf [4] [] (j4 _ (ak h) :)
theorem Wl {G:Go.Ln.Ground}:aV Tryz.prog G 85 Hn:=gT 2 0 (aM VH (aM WB bF)) ci Tryz.func85 (fun a r h=>Yw a.1 a.2 r h)
noncomputable def Jq:(Duty×Clause)→List V:=cA ah (oA au)
noncomputable def Jr (r:Bool):V×List V:=(B r,[])
noncomputable def Hp:Ent:=bm [false,false] Jq Jr fun x=>N5 x.1 x.2
theorem XO {d_1:Duty}{x_2:Clause}{r}(h:N5 d_1 x_2=some r):Hp.F (Jq (d_1,x_2))=some (Jr r):=aI (aU eh (aJ dB)) h
noncomputable def acs:Code:=aG Tryz.f87
noncomputable def XN:Env:=b7 Tryz.prog []
noncomputable def acr (x:Duty×Clause)(r:Bool):St→Prop:=QF XN Tryz.f87 [false,false] (Jq x) (Jr r)
theorem Yy (d_1:Duty)(x_2:Clause)(r:Bool)(h:N5 d_1 x_2=some r):bA XN Tryz.f87 [false,false] 0 (Jq (d_1,x_2)) (Jr r):=by
 show Run _ _ (acr (d_1,x_2) r) [.code acs] _
 refine rI 5 [(0,ah d_1),(1,az x_2)] [] 1 ?_
 unfold N5 at h
 refine cq 10 [4] [B true] 65 ?_
 obtain rfl:=Option.some.inj h
 exact rP [B true]
theorem Wn {G:Go.Ln.Ground}:aV Tryz.prog G 87 Hp:=gT 2 0 bF ci Tryz.func87 (fun a r h=>Yy a.1 a.2 r h)
noncomputable def Jb:Int→List V:=oA I
noncomputable def Jc (r:Bool):V×List V:=(B r,[])
noncomputable def G1:Ent:=bm [false] Jb Jc fun x=>Kb x
theorem XJ {x_1:Int}{r}(h:Kb x_1=some r):G1.F (Jb x_1)=some (Jc r):=aI (aJ bG) h
noncomputable def aci:Code:=aG Tryz.f205
noncomputable def XI:Env:=b7 Tryz.prog []
noncomputable def ach (x:Int)(r:Bool):St→Prop:=QF XI Tryz.f205 [false] (Jb x) (Jc r)
theorem Yh (x_1:Int)(r:Bool)(h:Kb x_1=some r):bA XI Tryz.f205 [false] 0 (Jb x_1) (Jc r):=by
 show Run _ _ (ach x_1 r) [.code aci] _
 refine rI 6 [(0,I x_1)] [] 1 ?_
 unfold Kb at h
 refine cq 11 [2] [B (x_1 != x_1)] 81 ?_
 obtain rfl:=Option.some.inj h
 exact rP [B (x_1 != x_1)]
theorem UM {G:Go.Ln.Ground}:aV Tryz.prog G 205 G1:=gT 1 0 bF ci Tryz.func205 (fun a r h=>Yh a r h)
noncomputable def I9:(Int×Int)→List V:=cA I (oA I)
noncomputable def Ja (r:Int):V×List V:=(I r,[])
noncomputable def GZ:Ent:=bm [false,false] I9 Ja fun x=>Ka x.1 x.2
theorem XH {x_1:Int}{y_2:Int}{r}(h:Ka x_1 y_2=some r):GZ.F (I9 (x_1,y_2))=some (Ja r):=aI (aU bG (aJ bG)) h
noncomputable def acg:Code:=aG Tryz.f152
noncomputable def XG:Env:=b7 Tryz.prog [(205,G1)]
noncomputable def acf (x:Int×Int)(r:Int):St→Prop:=QF XG Tryz.f152 [false,false] (I9 x) (Ja r)
theorem Yg (x_1:Int)(y_2:Int)(r:Int)(h:Ka x_1 y_2=some r):bA XG Tryz.f152 [false,false] 0 (I9 (x_1,y_2)) (Ja r):=by
 show Run _ _ (acf (x_1,y_2) r) [.code acg] _
 refine rI 20 [(0,I x_1),(1,I y_2)] [] 1 ?_
 unfold Ka at h
 refine cq 7 [7] [I x_1] 33 ?_
 obtain⟨r3,hr3,h⟩:=bS h
 refine oq 49 (B r3) rfl (cP (XJ hr3)) ?_
 refine cq 5 [5,9] [B r3,I y_2] 81 ?_
 obtain⟨r4,hr4,h⟩:=bS h
 refine oq 97 (B r4) rfl (cP (XJ hr4)) ?_
 refine cq 7 [6,11] [B r4,B r3] 129 ?_
 refine sq h ?_ ?_<;>intro h
 ·refine cq 5 [12] [B r4] 145 ?_
  refine sq h ?_ ?_<;>intro h
  ·refine cq 4 [4] [I (0)] 161 ?_
   obtain rfl:=Option.some.inj h
   exact rP [I (0)]
  ·refine aq 1 ?_
   refine cq 4 [4] [I (-1)] 161 ?_
   obtain rfl:=Option.some.inj h
   exact rP [I (-1)]
 ·refine aq 1 ?_
  refine cq 5 [13] [B r4] 145 ?_
  refine sq h ?_ ?_<;>intro h
  ·refine cq 4 [4] [I (1)] 161 ?_
   obtain rfl:=Option.some.inj h
   exact rP [I (1)]
  ·refine aq 1 ?_
   refine cq 7 [16] [B (decide (x_1<y_2))] 193 ?_
   refine sq h ?_ ?_<;>intro h
   ·refine cq 4 [4] [I (-1)] 209 ?_
    obtain rfl:=Option.some.inj h
    exact rP [I (-1)]
   ·refine aq 1 ?_
    refine cq 7 [19] [B (decide (x_1>y_2))] 241 ?_
    refine sq h ?_ ?_<;>intro h
    ·refine cq 4 [4] [I (1)] 257 ?_
     obtain rfl:=Option.some.inj h
     exact rP [I (1)]
    ·refine aq 1 ?_
     refine cq 4 [4] [I (0)] 257 ?_
     obtain rfl:=Option.some.inj h
     exact rP [I (0)]
theorem UL {G:Go.Ln.Ground}:aV Tryz.prog G 152 GZ:=gT 2 0 (aM UM bF) ci Tryz.func152 (fun a r h=>Yg a.1 a.2 r h)
noncomputable def JA:(Int×Int×State)→List V:=cA I (cA I (oA (fun x:State=>.iptr (bK x) 0)))
noncomputable def JB (r:Int):V×List V:=(I r,[])
noncomputable def yg:Ent:=bm [false,false,false] JA JB fun x=>zJ x.1 x.2.1 x.2.2
theorem rQ {i_1:Int}{k_2:Int}{a_3:State}{r}(h:zJ i_1 k_2 a_3=some r):yg.F (JA (i_1,k_2,a_3))=some (JB r):=aI (aU bG (aU bG (aJ (pb cd)))) h
noncomputable def acC:Code:=aG Tryz.f151
noncomputable def XT:Env:=b7 Tryz.prog [(152,GZ)]
noncomputable def acB (x:Int×Int×State)(r:Int):St→Prop:=QF XT Tryz.f151 [false,false,false] (JA x) (JB r)
theorem YG (i_1:Int)(k_2:Int)(a_3:State)(r:Int)(h:zJ i_1 k_2 a_3=some r):bA XT Tryz.f151 [false,false,false] 0 (JA (i_1,k_2,a_3)) (JB r):=by
 show Run _ _ (acB (i_1,k_2,a_3) r) [.code acC] _
 refine rI 19 [(0,I i_1),(1,I k_2),(2,.iptr (ae a_3) 0)] [] 1 ?_
 unfold zJ at h
 refine cq 5 [] [] 17 ?_
 refine dK [0,1,0,7,15,31,0,64,0,448,960,1984,4095,8191] rfl (by decide +kernel) ?_
 refine dq [] [] (.iptr (ae a_3) 2) rfl (an rfl rfl rfl) ?_
 refine dq [] [] (.isl false (a_3.Duties.map ah)) rfl (aN rfl rfl) ?_
 refine dk 1 [8] [I i_1] ?_
 obtain⟨e4,he4,h⟩:=bS h
 refine dq [] [] (.iptr (ah e4) 0) rfl (aj rfl rfl rfl (bd rfl rfl rfl rfl he4)) ?_
 refine dq [] [] (.iptr (ah e4) 2) rfl (an rfl rfl rfl) ?_
 refine dq [] [] (I e4.Due) rfl (aN rfl rfl) ?_
 refine dq [] [] (.iptr (ae a_3) 2) rfl (an rfl rfl rfl) ?_
 refine dq [] [] (.isl false (a_3.Duties.map ah)) rfl (aN rfl rfl) ?_
 refine dk 1 [14] [I k_2] ?_
 obtain⟨e5,he5,h⟩:=bS h
 refine dq [] [] (.iptr (ah e5) 0) rfl (aj rfl rfl rfl (bd rfl rfl rfl rfl he5)) ?_
 refine dq [] [] (.iptr (ah e5) 2) rfl (an rfl rfl rfl) ?_
 refine dq [] [] (I e5.Due) rfl (aN rfl rfl) ?_
 obtain⟨r6,hr6,h⟩:=bS h
 refine dq [] [] (I r6) rfl (cP (XH hr6)) ?_ (dU rfl rfl rfl rfl (bC (cg rfl) (bC (cg rfl) dM)) (XH hr6) (.inr rfl) rfl)
 refine dk 1 [5] [I r6] ?_
 refine de 241 rfl rfl ?_
 obtain rfl:=Option.some.inj h
 exact rP [I r6]
theorem Lf {G:Go.Ln.Ground}:aV Tryz.prog G 151 yg:=gT 3 0 (aM UL bF) ci Tryz.func151 (fun a r h=>YG a.1 a.2.1 a.2.2 r h)
noncomputable def Ei:((List Int)×Int×Int×State)→List V:=cA (rC 1 I) (cA I (cA I (oA (fun x:State=>(.fn 151 [.iptr (bK x) 0]:V)))))
noncomputable def Ek (r:(List Int)):V×List V:=(.tup [],[.usl 1 (r.map I)])
noncomputable def Bw:Ent:=bm [true,false,false,false] Ei Ek fun x=>qT x.1 x.2.1 x.2.2.1 x.2.2.2
theorem Sh {cl:List Int}{et:Int}{eD:Int}{cI:State}{r}(h:qT cl et eD cI=some r):Bw.F (Ei (cl,et,eD,cI))=some (Ek r):=aI (aU (iQ bG) (aU bG (aU bG (aJ (jG cd))))) h
noncomputable def KH:Code:=aG Tryz.f244
noncomputable abbrev xV:Code:=cL (cL (cR (cL (cL (cR (cL (cL (cR KH))))))))
noncomputable def ww:Env:=b7 Tryz.prog [(151,yg)]
noncomputable def Ej (x:(List Int)×Int×Int×State)(r:(List Int)):St→Prop:=QF ww Tryz.f244 [true,false,false,false] (Ei x) (Ek r)
theorem M3 (cl:List Int)(et:Int)(eD:Int)(cI:State)(x5:Int×Int×Int×(List Int)):cj ww 1 (Ej (cl,et,eD,cI)) xV 2 (kH cl et eD cI x5) (fun u=>(sT 53 [(0,.hs 1 0 [] 1 0 (u.map I).length),(1,I x5.1),(2,I x5.2.1),(3,.fn 151 [.iptr (ae cI) 0]),(8,I x5.2.2.1)] [⟨0,1,u.map I⟩] 2)) fun x6=>(sT 53 [(0,.hs 1 0 [] 1 0 (x6.2.map I).length),(1,I x5.1),(2,I x5.2.1),(3,.fn 151 [.iptr (ae cI) 0]),(8,I x5.2.2.1),(9,I x6.1)] [⟨0,1,x6.2.map I⟩] 2):=ef (zc cl et eD cI x5) fun {Q K} hK self ih x6 y h hr hn=>by
 unfold jR at h
 refine aq 2 ?_
 refine dK [0,0,3,7,15,15,15,111,239,15,15,1039,3599,7695,16383,32767,65535] rfl (by decide +kernel) ?_
 refine dk 4 [21,20,19,18] [B (decide (x6.1>x5.1)),B (decide (x6.1>x5.1)),I x5.1,I x6.1] ?_
 obtain⟨y7,hy7,hy71,hy72⟩:=bL h
 have j7:∀u7,y7=.inr u7→Run ww 1 Q (.code (cR (cL xV))::.code (cR xV)::.lp xV::.blk 2::K) (sT 53 [(0,.hs 1 0 [] 1 0 (x6.2.map I).length),(1,I x5.1),(2,I x5.2.1),(3,.fn 151 [.iptr (ae cI) 0]),(8,I x5.2.2.1),(9,I x6.1),(34,B u7)] [⟨0,1,x6.2.map I⟩] 2):=by
  intro u7 hu
  replace h:=hy72 u7 hu
  refine sq h ?_ ?_<;>intro h
  ·refine aq 1 ?_
   refine aq 2 ?_
   refine dK [0,0,0,0,8,0,0,64,224,480,0,0,3072,7168,16355,32739,65535,131071] rfl (by decide +kernel) ?_
   refine dk 8 [44,43,42,41,40,39,38,37] [I (ai (x6.1 - 1)),I x6.1,.hs 1 0 [] 1 0 (x6.2.map I).length,I (ai (x6.1 - 1)),I x6.1,.hs 1 0 [] 1 0 (x6.2.map I).length,I x6.1,.hs 1 0 [] 1 0 (x6.2.map I).length] ?_
   obtain⟨e8,he8,h⟩:=bS h
   refine dq [1] [] (.hp 1 0 [] 1 (0+Int.toNat (ai (x6.1 - 1))) 0) rfl (aj rfl rfl rfl (dD (f:=I) (xs:=x6.2) rfl rfl rfl he8)) ?_
   refine dq [1] [] (I e8) rfl (aN rfl (fH (path:=[]) rfl rfl rfl aW (cS (f:=I) (xs:=x6.2) he8) rfl rfl rfl)) ?_
   refine dk 2 [48,47] [I x6.1,.hs 1 0 [] 1 0 (x6.2.map I).length] ?_
   obtain⟨e9,he9,h⟩:=bS h
   refine dq [1] [] (.hp 1 0 [] 1 (0+Int.toNat x6.1) 0) rfl (aj rfl rfl rfl (dD (f:=I) (xs:=x6.2) rfl rfl rfl he9)) ?_
   refine dq [1] [] (I e9) rfl (aN rfl (fH (path:=[]) rfl rfl rfl aW (cS (f:=I) (xs:=x6.2) he9) rfl rfl rfl)) ?_
   obtain⟨e10,he10,h⟩:=bS h
   refine dq [1] [] (.hp 1 0 [] 1 (0+Int.toNat x6.1) 0) rfl (aj rfl rfl rfl (dD (f:=I) (xs:=x6.2) rfl rfl rfl he10)) ?_
   refine dz [1] [1] rfl (fQ rfl rfl (eY (path:=[]) (pl:=true) (e':=I e8) (es2':=(cX x6.2 x6.1 e8).map I) rfl (dJ rfl) rfl rfl rfl aW (cS (f:=I) (xs:=x6.2) he10) rfl rfl rfl (iw (f:=I) (xs:=x6.2) (y:=e8)) ey 0 rfl)) ?_
   try rw[←gI (f:=I) (xs:=x6.2) (i:=x6.1) (z:=e8)]
   obtain⟨e13,he13,h⟩:=bS h
   refine dq [1] [] (.hp 1 0 [] 1 (0+Int.toNat (ai (x6.1 - 1))) 0) rfl (aj rfl rfl rfl (dD (f:=I) (xs:=(cX x6.2 x6.1 e8)) rfl rfl rfl he13)) ?_
   obtain⟨rw14,hrw14,h⟩:=lJ h
   refine dz [1] [1] rfl (fQ rfl rfl (eY (path:=[]) (pl:=true) (e':=I e9) (es2':=(rw14).map I) rfl (dJ rfl) rfl rfl rfl aW (cS (f:=I) (xs:=(cX x6.2 x6.1 e8)) he13) rfl rfl rfl (vI (f:=I) (xs:=(cX x6.2 x6.1 e8)) (y:=e9) hrw14) ey 0 rfl)) ?_
   try rw[←sb hrw14 (f:=I) (xs:=(cX x6.2 x6.1 e8))]
   refine de 290 rfl rfl ?_
   refine cq 6 [9] [I (ai (x6.1 - 1))] 338 ?_
   refine cZ ?_
   exact rf [0,1,2,3,8,9] [1] (ih _ _ h hr hn :)
  ·refine aq 1 ?_
   exact rf [0,1,2,3,8] [1] (hn _ (ak h) :) (hk:=hK)
 have r7:∀r',y7=.inl r'→∀st,Ej (cl,et,eD,cI) r' st→Q st:=fun r' e st hq=>hr r' (hy71 r' e) st hq
 replace h:=hy7
 refine sp 21 h rfl ?_ ?_<;>intro h
 ·refine dk 3 [24,23,22] [I x6.1,.hs 1 0 [] 1 0 (x6.2.map I).length,.fn 151 [.iptr (ae cI) 0]] ?_
  obtain⟨e18,he18,h⟩:=bS h
  refine dy [1] [] (.hp 1 0 [] 1 (0+Int.toNat x6.1) 0) rfl (aj rfl rfl rfl (dD (f:=I) (xs:=x6.2) rfl rfl rfl he18)) ?_
  refine dy [1] [] (I e18) rfl (aN rfl (fH (path:=[]) rfl rfl rfl aW (cS (f:=I) (xs:=x6.2) he18) rfl rfl rfl)) ?_
  refine dk 3 [29,28,27] [I (ai (x6.1 - 1)),I x6.1,.hs 1 0 [] 1 0 (x6.2.map I).length] ?_
  obtain⟨e19,he19,h⟩:=bS h
  refine dy [1] [] (.hp 1 0 [] 1 (0+Int.toNat (ai (x6.1 - 1))) 0) rfl (aj rfl rfl rfl (dD (f:=I) (xs:=x6.2) rfl rfl rfl he19)) ?_
  refine dy [1] [] (I e19) rfl (aN rfl (fH (path:=[]) rfl rfl rfl aW (cS (f:=I) (xs:=x6.2) he19) rfl rfl rfl)) ?_
  obtain⟨r20,hr20,h⟩:=bS h
  refine dy [] [] (I r20) rfl (cP (rQ hr20)) ?_ (dU rfl rfl rfl rfl (bC (cg rfl) (bC (cg rfl) (bC (cg rfl) dM))) (rQ hr20) (.inr rfl) rfl)
  refine dk 2 [34,33] [B (decide (r20<0)),B (decide (r20<0))] ?_
  refine de 274 rfl rfl ?_
  exact rf [0,1,2,3,8,9,34] [1] (j7 _ (ak h) :)
 ·refine dk 13 [34,33,32,31,30,29,28,27,26,25,24,23,22] [B false,.und,.und,.und,.und,.und,.und,.und,.und,.und,.und,.und,.und] ?_
  refine de 274 rfl rfl ?_
  exact rf [0,1,2,3,8,9,34] [1] (j7 _ (ak h) :)
theorem M2 (cl:List Int)(et:Int)(eD:Int)(cI:State):cj ww 1 (Ej (cl,et,eD,cI)) (cL (cL (cR KH))) 0 (lS cl et eD cI) (fun u=>(sT 53 [] [⟨0,1,u.map I⟩] 2)) fun x5=>(sT 53 [(0,.hs 1 0 [] 1 0 (x5.2.2.2.map I).length),(1,I x5.1),(2,I x5.2.1),(3,.fn 151 [.iptr (ae cI) 0]),(8,I x5.2.2.1)] [⟨0,1,x5.2.2.2.map I⟩] 2):=ef (zb cl et eD cI) fun {Q K} hK self ih x5 y h hr hn=>by
 unfold jQ at h
 refine cq 7 [14] [B (decide (x5.2.2.1<x5.2.1))] 50 ?_
 refine sq h ?_ ?_<;>intro h
 ·refine aq 1 ?_
  refine cq 8 [9] [I x5.2.2.1] 82 ?_
  obtain⟨y21,hy21,hy211,hy212⟩:=bL h
  refine bN rfl ?_
  refine rf [0,1,2,3,8,9] [1] (M3 cl et eD cI x5 rfl (x5.2.2.1,x5.2.2.2) _ hy21 (fun r' e st hq=>hr r' (hy211 r' e) st hq) fun u21 hu=>?_)
  replace h:=hy212 u21 hu
  refine cq 6 [8] [I (ai (x5.2.2.1+1))] 50 ?_
  refine cZ ?_
  exact rf [0,1,2,3,8] [1] (ih _ _ h hr hn :)
 ·refine aq 1 ?_
  exact rf [] [1] (hn _ (ak h) :) (hk:=hK)
theorem VG (cl:List Int)(et:Int)(eD:Int)(cI:State)(r:(List Int))(h:qT cl et eD cI=some r):bA ww Tryz.f244 [true,false,false,false] 1 (Ei (cl,et,eD,cI)) (Ek r):=by
 show Run _ _ (Ej (cl,et,eD,cI) r) [.code KH] _
 refine rI 53 [(0,.hs 1 0 [] 1 0 (cl.map I).length),(1,I et),(2,I eD),(3,.fn 151 [.iptr (ae cI) 0])] [(1,some ⟨0,1,cl.map I⟩)] 2 ?_
 unfold qT at h
 refine cq 7 [8] [I (ai (et+1))] 50 ?_
 obtain⟨y22,hy22,hy221,hy222⟩:=bJ h
 refine bN rfl ?_
 refine rf [0,1,2,3,8] [1] (M2 cl et eD cI rfl (et,eD,(ai (et+1)),cl) _ hy22 (fun r' e st hq=>by rw[hy221 r' e] at hq;exact hq) fun u22 hu=>?_)
 replace h:=hy222 u22 hu
 obtain⟨g23,h⟩:=gG h
 obtain rfl:=Option.some.inj h
 exact yA ⟨_,fin (vs:=[]) rfl eB rfl (lK rfl (pT (f:=I) (xs:=u22) (by simpa using g23) rfl) (dj (dj (dj fw)))),xz fp⟩
theorem Si {G:Go.Ln.Ground}:aV Tryz.prog G 244 Bw:=gT 4 1 (aM Lf bF) ci Tryz.func244 (fun a r h=>VG a.1 a.2.1 a.2.2.1 a.2.2.2 r h)
noncomputable def Es:((List Int)×Int×Int×Int×State)→List V:=cA (rC 1 I) (cA I (cA I (cA I (oA (fun x:State=>(.fn 151 [.iptr (bK x) 0]:V))))))
noncomputable def Et (r:(List Int)):V×List V:=(.tup [],[.usl 1 (r.map I)])
noncomputable def BB:Ent:=bm [true,false,false,false,false] Es Et fun x=>uN x.1 x.2.1 x.2.2.1 x.2.2.2.1 x.2.2.2.2
theorem KN {d8:List Int}{eN:Int}{fB:Int}{gJ:Int}{fm:State}{r}(h:uN d8 eN fB gJ fm=some r):BB.F (Es (d8,eN,fB,gJ,fm))=some (Et r):=aI (aU (iQ bG) (aU bG (aU bG (aU bG (aJ (jG cd)))))) h
noncomputable def Sm:Code:=aG Tryz.f286
noncomputable def KM:Env:=b7 Tryz.prog []
noncomputable def Sl (x:(List Int)×Int×Int×Int×State)(r:(List Int)):St→Prop:=QF KM Tryz.f286 [true,false,false,false,false] (Es x) (Et r)
theorem M8 (d8:List Int)(eN:Int)(fB:Int)(gJ:Int)(fm:State):cj KM 1 (Sl (d8,eN,fB,gJ,fm)) (cL (cL (cR Sm))) 0 (lT d8 eN fB gJ fm) (fun u=>(sT 38 [] [⟨0,1,u.map I⟩] 2)) fun x6=>(sT 38 [(0,.hs 1 0 [] 1 0 (x6.2.map I).length),(1,I eN),(2,I fB),(3,I gJ),(10,I x6.1)] [⟨0,1,x6.2.map I⟩] 2):=ef (zh d8 eN fB gJ fm) fun {Q K} hK self ih x6 y h hr hn=>by
 unfold lh at h
 refine cq 7 [13] [B (decide (x6.1<gJ))] 50 ?_
 refine sq h ?_ ?_<;>intro h
 ·refine aq 1 ?_
  refine aq 2 ?_
  refine dK [0,0,0,6,0,0,0,96,0,0,0,1536,3840,7936,0,0,0,98304,245760,507904,1048335,2096911,4194303,8388607] rfl (by decide +kernel) ?_
  refine dk 12 [27,26,25,24,23,22,21,20,19,18,17,16] [I (ai (fB+x6.1)),I x6.1,I fB,.hs 1 0 [] 1 0 (x6.2.map I).length,I (ai (fB+x6.1)),I x6.1,I fB,.hs 1 0 [] 1 0 (x6.2.map I).length,I (ai (eN+x6.1)),I x6.1,I eN,.hs 1 0 [] 1 0 (x6.2.map I).length] ?_
  obtain⟨e7,he7,h⟩:=bS h
  refine dq [1] [] (.hp 1 0 [] 1 (0+Int.toNat (ai (fB+x6.1))) 0) rfl (aj rfl rfl rfl (dD (f:=I) (xs:=x6.2) rfl rfl rfl he7)) ?_
  refine dq [1] [] (I e7) rfl (aN rfl (fH (path:=[]) rfl rfl rfl aW (cS (f:=I) (xs:=x6.2) he7) rfl rfl rfl)) ?_
  refine dk 4 [33,32,31,30] [I (ai (eN+x6.1)),I x6.1,I eN,.hs 1 0 [] 1 0 (x6.2.map I).length] ?_
  obtain⟨e8,he8,h⟩:=bS h
  refine dq [1] [] (.hp 1 0 [] 1 (0+Int.toNat (ai (eN+x6.1))) 0) rfl (aj rfl rfl rfl (dD (f:=I) (xs:=x6.2) rfl rfl rfl he8)) ?_
  refine dq [1] [] (I e8) rfl (aN rfl (fH (path:=[]) rfl rfl rfl aW (cS (f:=I) (xs:=x6.2) he8) rfl rfl rfl)) ?_
  obtain⟨e9,he9,h⟩:=bS h
  refine dq [1] [] (.hp 1 0 [] 1 (0+Int.toNat (ai (eN+x6.1))) 0) rfl (aj rfl rfl rfl (dD (f:=I) (xs:=x6.2) rfl rfl rfl he9)) ?_
  refine dz [1] [1] rfl (fQ rfl rfl (eY (path:=[]) (pl:=true) (e':=I e7) (es2':=(cX x6.2 (ai (eN+x6.1)) e7).map I) rfl (dJ rfl) rfl rfl rfl aW (cS (f:=I) (xs:=x6.2) he9) rfl rfl rfl (iw (f:=I) (xs:=x6.2) (y:=e7)) ey 0 rfl)) ?_
  try rw[←gI (f:=I) (xs:=x6.2) (i:=(ai (eN+x6.1))) (z:=e7)]
  obtain⟨e12,he12,h⟩:=bS h
  refine dq [1] [] (.hp 1 0 [] 1 (0+Int.toNat (ai (fB+x6.1))) 0) rfl (aj rfl rfl rfl (dD (f:=I) (xs:=(cX x6.2 (ai (eN+x6.1)) e7)) rfl rfl rfl he12)) ?_
  obtain⟨rw13,hrw13,h⟩:=lJ h
  refine dz [1] [1] rfl (fQ rfl rfl (eY (path:=[]) (pl:=true) (e':=I e8) (es2':=(rw13).map I) rfl (dJ rfl) rfl rfl rfl aW (cS (f:=I) (xs:=(cX x6.2 (ai (eN+x6.1)) e7)) he12) rfl rfl rfl (vI (f:=I) (xs:=(cX x6.2 (ai (eN+x6.1)) e7)) (y:=e8) hrw13) ey 0 rfl)) ?_
  try rw[←sb hrw13 (f:=I) (xs:=(cX x6.2 (ai (eN+x6.1)) e7))]
  refine de 434 rfl rfl ?_
  refine cq 6 [10] [I (ai (x6.1+1))] 482 ?_
  refine cZ ?_
  exact rf [0,1,2,3,10] [1] (ih _ _ h hr hn :)
 ·refine aq 1 ?_
  exact rf [] [1] (hn _ (ak h) :) (hk:=hK)
theorem VK (d8:List Int)(eN:Int)(fB:Int)(gJ:Int)(fm:State)(r:(List Int))(h:uN d8 eN fB gJ fm=some r):bA KM Tryz.f286 [true,false,false,false,false] 1 (Es (d8,eN,fB,gJ,fm)) (Et r):=by
 show Run _ _ (Sl (d8,eN,fB,gJ,fm) r) [.code Sm] _
 refine rI 38 [(0,.hs 1 0 [] 1 0 (d8.map I).length),(1,I eN),(2,I fB),(3,I gJ),(4,.fn 151 [.iptr (ae fm) 0])] [(1,some ⟨0,1,d8.map I⟩)] 2 ?_
 unfold uN at h
 refine cq 5 [10] [I (0)] 18 ?_
 obtain⟨y17,hy17,hy171,hy172⟩:=bJ h
 refine bN rfl ?_
 refine rf [0,1,2,3,10] [1] (M8 d8 eN fB gJ fm rfl (0,d8) _ hy17 (fun r' e st hq=>by rw[hy171 r' e] at hq;exact hq) fun u17 hu=>?_)
 replace h:=hy172 u17 hu
 obtain⟨g18,h⟩:=gG h
 obtain rfl:=Option.some.inj h
 exact yA ⟨_,fin (vs:=[]) rfl eB rfl (lK rfl (pT (f:=I) (xs:=u17) (by simpa using g18) rfl) (dj (dj (dj (dj fw))))),xz fp⟩
theorem Sn {G:Go.Ln.Ground}:aV Tryz.prog G 286 BB:=gT 5 1 bF ci Tryz.func286 (fun a r h=>VK a.1 a.2.1 a.2.2.1 a.2.2.2.1 a.2.2.2.2 r h)
noncomputable def En:((List Int)×Int×Int×Int×State)→List V:=cA (rC 1 I) (cA I (cA I (cA I (oA (fun x:State=>(.fn 151 [.iptr (bK x) 0]:V))))))
noncomputable def Ep (r:(List Int)):V×List V:=(.tup [],[.usl 1 (r.map I)])
noncomputable def Bx:Ent:=bm [true,false,false,false,false] En Ep fun x=>wx x.1 x.2.1 x.2.2.1 x.2.2.2.1 x.2.2.2.2
theorem aa7 {eC:List Int}{a_9:Int}{eJ:Int}{gq:Int}{d3:State}{r}(h:wx eC a_9 eJ gq d3=some r):Bx.F (En (eC,a_9,eJ,gq,d3))=some (Ep r):=aI (aU (iQ bG) (aU bG (aU bG (aU bG (aJ (jG cd)))))) h
noncomputable def KK:Code:=aG Tryz.f264
noncomputable def Eo:Env:=b7 Tryz.prog [(286,BB)]
noncomputable def KJ (x:(List Int)×Int×Int×Int×State)(r:(List Int)):St→Prop:=QF Eo Tryz.f264 [true,false,false,false,false] (En x) (Ep r)
theorem M4 (eC:List Int)(a_9:Int)(eJ:Int)(gq:Int)(d3:State):cj Eo 1 (KJ (eC,a_9,eJ,gq,d3)) (cL (cL (cL (cR (cR KK))))) 0 (tq eC a_9 eJ gq d3) (fun u=>(sT 58 [(0,.hs 1 0 [] 1 0 (u.2.2.map I).length),(2,I u.1),(4,.fn 151 [.iptr (ae d3) 0]),(10,I u.2.1)] [⟨0,1,u.2.2.map I⟩] 2)) fun x6=>(sT 58 [(0,.hs 1 0 [] 1 0 (x6.2.2.map I).length),(2,I eJ),(4,.fn 151 [.iptr (ae d3) 0]),(10,I x6.1),(11,I x6.2.1)] [⟨0,1,x6.2.2.map I⟩] 2):=ef (zd eC a_9 eJ gq d3) fun {Q K} hK self ih x6 y h hr hn=>by
 unfold nf at h
 refine cq 7 [20] [B (x6.1 != x6.2.1)] 50 ?_
 refine sq h ?_ ?_<;>intro h
 ·refine aq 1 ?_
  refine cq 7 [23] [B (decide (x6.1>x6.2.1))] 98 ?_
  obtain⟨y7,hy7,hy71,hy72⟩:=bL h
  have j7:∀u7,y7=.inr u7→Run Eo 1 Q (.blk 1::.lp (cL (cL (cL (cR (cR KK)))))::.blk 0::K) (sT 58 [(0,.hs 1 0 [] 1 0 (u7.2.2.map I).length),(2,I eJ),(4,.fn 151 [.iptr (ae d3) 0]),(10,I u7.1),(11,I u7.2.1)] [⟨0,1,u7.2.2.map I⟩] 2):=by
   intro u7 hu
   replace h:=hy72 u7 hu
   refine aq 1 ?_
   refine cZ ?_
   exact rf [0,2,4,10,11] [1] (ih _ _ h hr hn :)
  have r7:∀r',y7=.inl r'→∀st,KJ (eC,a_9,eJ,gq,d3) r' st→Q st:=fun r' e st hq=>hr r' (hy71 r' e) st hq
  replace h:=hy7
  refine sq h ?_ ?_<;>intro h
  ·refine cq 9 [24,27,28,29,30] [.hs 1 0 [] 1 0 (x6.2.2.map I).length,I (ai (eJ - x6.1)),I eJ,I x6.2.1,.fn 151 [.iptr (ae d3) 0]] 210 ?_
   obtain⟨r8,hr8,h⟩:=bS h
   obtain⟨g9,h⟩:=gG h
   refine oq 226 (.tup []) rfl (cm rfl rfl (cU rfl rfl rfl (kV (jY rfl (f6 (path:=[]) rfl rfl aW rfl)) (bC (cg rfl) (bC (cg rfl) (bC (cg rfl) (bC (ow (dX (fU rfl) im)) dM))))) (KN hr8) (.inr rfl) (jg rfl rfl rfl rfl ew) rfl rfl rfl)) ?_
   try rw[iu (f:=I) (xs:=x6.2.2) (ys:=r8) g9]
   refine cq 7 [10] [I (ai (x6.1 - x6.2.1))] 290 ?_
   exact rf [0,2,4,10,11] [1] (j7 _ (ak h) :)
  ·refine cq 13 [35,38,43,44,45] [.hs 1 0 [] 1 0 (x6.2.2.map I).length,I (ai (eJ - x6.1)),I (ai ((ai (eJ+x6.2.1)) - x6.1)),I x6.1,.fn 151 [.iptr (ae d3) 0]] 274 ?_
   obtain⟨r10,hr10,h⟩:=bS h
   obtain⟨g11,h⟩:=gG h
   refine oq 290 (.tup []) rfl (cm rfl rfl (cU rfl rfl rfl (kV (jY rfl (f6 (path:=[]) rfl rfl aW rfl)) (bC (cg rfl) (bC (cg rfl) (bC (cg rfl) (bC (ow (dX (fU rfl) im)) dM))))) (KN hr10) (.inr rfl) (jg rfl rfl rfl rfl ew) rfl rfl rfl)) ?_
   try rw[iu (f:=I) (xs:=x6.2.2) (ys:=r10) g11]
   refine cq 7 [11] [I (ai (x6.2.1 - x6.1))] 354 ?_
   exact rf [0,2,4,10,11] [1] (j7 _ (ak h) :)
 ·refine aq 1 ?_
  exact rf [0,2,4,10] [1] (hn _ (ak h) :) (hk:=hK)
theorem VI (eC:List Int)(a_9:Int)(eJ:Int)(gq:Int)(d3:State)(r:(List Int))(h:wx eC a_9 eJ gq d3=some r):bA Eo Tryz.f264 [true,false,false,false,false] 1 (En (eC,a_9,eJ,gq,d3)) (Ep r):=by
 show Run _ _ (KJ (eC,a_9,eJ,gq,d3) r) [.code KK] _
 refine rI 58 [(0,.hs 1 0 [] 1 0 (eC.map I).length),(1,I a_9),(2,I eJ),(3,I gq),(4,.fn 151 [.iptr (ae d3) 0])] [(1,some ⟨0,1,eC.map I⟩)] 2 ?_
 unfold wx at h
 refine cq 16 [10,11] [I (ai (eJ - a_9)),I (ai (gq - eJ))] 130 ?_
 obtain⟨y12,hy12,hy121,hy122⟩:=bJ h
 refine bN rfl ?_
 refine rf [0,2,4,10,11] [1] (M4 eC a_9 eJ gq d3 rfl ((ai (eJ - a_9)),(ai (gq - eJ)),eC) _ hy12 (fun r' e st hq=>by rw[hy121 r' e] at hq;exact hq) fun u12 hu=>?_)
 replace h:=hy122 u12 hu
 refine cq 8 [50,53,54,55,56] [.hs 1 0 [] 1 0 (u12.2.2.map I).length,I (ai (u12.1 - u12.2.1)),I u12.1,I u12.2.1,.fn 151 [.iptr (ae d3) 0]] 114 ?_
 obtain⟨r13,hr13,h⟩:=bS h
 obtain⟨g14,h⟩:=gG h
 refine oq 130 (.tup []) rfl (cm rfl rfl (cU rfl rfl rfl (kV (jY rfl (f6 (path:=[]) rfl rfl aW rfl)) (bC (cg rfl) (bC (cg rfl) (bC (cg rfl) (bC (ow (dX (fU rfl) im)) dM))))) (KN hr13) (.inr rfl) (jg rfl rfl rfl rfl ew) rfl rfl rfl)) ?_
 try rw[iu (f:=I) (xs:=u12.2.2) (ys:=r13) g14]
 refine aq 1 ?_
 obtain⟨g15,h⟩:=gG h
 obtain rfl:=Option.some.inj h
 exact yA ⟨_,fin (vs:=[]) rfl eB rfl (lK rfl (pT (f:=I) (xs:=r13) (by simpa using g15) rfl) (dj (dj (dj (dj fw))))),xz fp⟩
theorem Sj {G:Go.Ln.Ground}:aV Tryz.prog G 264 Bx:=gT 5 1 (aM Sn bF) ci Tryz.func264 (fun a r h=>VI a.1 a.2.1 a.2.2.1 a.2.2.2.1 a.2.2.2.2 r h)
noncomputable def wz:((List Int)×Int×Int×Int×State)→List V:=cA (rC 1 I) (cA I (cA I (cA I (oA (fun x:State=>(.fn 151 [.iptr (bK x) 0]:V))))))
noncomputable def wA (r:(List Int)):V×List V:=(.tup [],[.usl 1 (r.map I)])
noncomputable def wB (ay:((List Int)×Int×Int×Int×State)→Option (List Int)):Ent:=bm [true,false,false,false,false] wz wA ay
theorem Hh (ay:((List Int)×Int×Int×Int×State)→Option (List Int)){x}{r}(h:ay x=some r):(wB ay).F (wz x)=some (wA r):=aI (aU (iQ bG) (aU bG (aU bG (aU bG (aJ (jG cd)))))) h
noncomputable def BC:Ent:=wB (aK ft)
theorem So {al:List Int}{aP:Int}{aQ:Int}{aZ:Int}{aD:State}{r}(h:Hg al aP aQ aZ aD=some r):BC.F (wz (al,aP,aQ,aZ,aD))=some (wA r):=Hh (aK ft) h
noncomputable def nM:Code:=aG Tryz.f245
noncomputable abbrev NU:Code:=cL (cL (cL (cR (cR (cL (cR (cL nM)))))))
noncomputable abbrev NV:Code:=cL (cL (cL (cR (cR (cL (cR (cL (cR nM))))))))
noncomputable abbrev Yp:Code:=cL (cL (cR (cL (cR (cR (cR (cL (cR (cL nM)))))))))
noncomputable abbrev NW:Code:=cL (cL (cL (cR (cR (cR (cR (cR (cR (cR nM)))))))))
noncomputable abbrev xX:Code:=cR (cR (cR (cR (cR (cR (cR (cR (cR (cR nM)))))))))
noncomputable abbrev Yq:Code:=cL (cL (cR (cL (cR (cR (cR (cL (cR (cL (cR nM))))))))))
noncomputable abbrev Hi:Code:=cR xX
noncomputable def gQ (ay:((List Int)×Int×Int×Int×State)→Option (List Int)):Env:=b7 Tryz.prog [(151,yg),(245,(wB ay)),(264,Bx)]
noncomputable def gb (ay:((List Int)×Int×Int×Int×State)→Option (List Int))(x:(List Int)×Int×Int×Int×State)(r:(List Int)):St→Prop:=QF (gQ ay) Tryz.f245 [true,false,false,false,false] (wz x) (wA r)
theorem M9 (ay:((List Int)×Int×Int×Int×State)→Option (List Int))(al:List Int)(aP:Int)(aQ:Int)(aZ:Int)(aD:State):cj (gQ ay) 1 (gb ay (al,aP,aQ,aZ,aD)) NU 0 (oP ay al aP aQ aZ aD) (fun u=>(sT 220 [(0,.hs 1 0 [] 1 0 (u.2.2.map I).length),(1,I u.1),(10,I u.2.1)] [⟨0,1,u.2.2.map I⟩] 2)) fun x6=>(sT 220 [(0,.hs 1 0 [] 1 0 (al.map I).length),(1,I aP),(4,.fn 151 [.iptr (ae aD) 0]),(10,I x6.1),(11,I x6.2)] [⟨0,1,al.map I⟩] 2):=ef (zi ay al aP aQ aZ aD) fun {Q K} hK self ih x6 y h hr hn=>by
 unfold iU at h
 refine cq 7 [33] [B (decide (x6.1<x6.2))] 50 ?_
 refine sq h ?_ ?_<;>intro h
 ·refine aq 1 ?_
  refine cq 12 [12] [I (IntKind.i64.wrap (dY .u64 (IntKind.u64.wrap (ai (x6.1+x6.2))) 1))] 162 ?_
  refine dK [0,0,0,6,14,0,0,96,224,511,1023] rfl (by decide +kernel) ?_
  refine dk 3 [42,41,40] [I (IntKind.i64.wrap (dY .u64 (IntKind.u64.wrap (ai (x6.1+x6.2))) 1)),.hs 1 0 [] 1 0 (al.map I).length,.fn 151 [.iptr (ae aD) 0]] ?_
  obtain⟨e7,he7,h⟩:=bS h
  refine dq [1] [] (.hp 1 0 [] 1 (0+Int.toNat (IntKind.i64.wrap (dY .u64 (IntKind.u64.wrap (ai (x6.1+x6.2))) 1))) 0) rfl (aj rfl rfl rfl (dD (f:=I) (xs:=al) rfl rfl rfl he7)) ?_
  refine dq [1] [] (I e7) rfl (aN rfl (fH (path:=[]) rfl rfl rfl aW (cS (f:=I) (xs:=al) he7) rfl rfl rfl)) ?_
  refine dk 2 [46,45] [I aP,.hs 1 0 [] 1 0 (al.map I).length] ?_
  obtain⟨e8,he8,h⟩:=bS h
  refine dq [1] [] (.hp 1 0 [] 1 (0+Int.toNat aP) 0) rfl (aj rfl rfl rfl (dD (f:=I) (xs:=al) rfl rfl rfl he8)) ?_
  refine dq [1] [] (I e8) rfl (aN rfl (fH (path:=[]) rfl rfl rfl aW (cS (f:=I) (xs:=al) he8) rfl rfl rfl)) ?_
  obtain⟨r9,hr9,h⟩:=bS h
  refine dq [] [] (I r9) rfl (cP (rQ hr9)) ?_ (dU rfl rfl rfl rfl (bC (cg rfl) (bC (cg rfl) (bC (cg rfl) dM))) (rQ hr9) (.inr rfl) rfl)
  refine dk 1 [50] [B (decide (r9<0))] ?_
  refine de 338 rfl rfl ?_
  obtain⟨u10,hu10,h⟩:=lJ h
  have j10:Run (gQ ay) 1 Q (.blk 1::.lp NU::.blk 0::K) (sT 220 [(0,.hs 1 0 [] 1 0 (al.map I).length),(1,I aP),(4,.fn 151 [.iptr (ae aD) 0]),(10,I u10.1),(11,I u10.2)] [⟨0,1,al.map I⟩] 2):=by
   refine aq 1 ?_
   refine cZ ?_
   exact rf [0,1,4,10,11] [1] (ih _ _ h hr hn :)
  replace h:=hu10
  clear hu10
  refine sn h rfl rfl ?_ ?_<;>intro h
  ·refine cq 5 [10] [I (ai ((IntKind.i64.wrap (dY .u64 (IntKind.u64.wrap (ai (x6.1+x6.2))) 1))+1))] 386 ?_
   subst h
   exact rf [0,1,4,10,11] [1] (j10 :)
  ·refine cq 4 [11] [I (IntKind.i64.wrap (dY .u64 (IntKind.u64.wrap (ai (x6.1+x6.2))) 1))] 370 ?_
   subst h
   exact rf [0,1,4,10,11] [1] (j10 :)
 ·refine aq 1 ?_
  exact rf [0,1,10] [1] (hn _ (ak h) :) (hk:=hK)
theorem Na (ay:((List Int)×Int×Int×Int×State)→Option (List Int))(al:List Int)(aP:Int)(aQ:Int)(aZ:Int)(aD:State)(u11:Int×Int×(List Int)):cj (gQ ay) 1 (gb ay (al,aP,aQ,aZ,aD)) Yp 2 (jw ay al aP aQ aZ aD u11) (fun u=>(sT 220 [] [⟨0,1,u.map I⟩] 2)) fun x12=>(sT 220 [(0,.hs 1 0 [] 1 0 (x12.2.map I).length),(10,I u11.2.1),(13,I x12.1)] [⟨0,1,x12.2.map I⟩] 2):=ef (zj ay al aP aQ aZ aD u11) fun {Q K} hK self ih x12 y h hr hn=>by
 unfold iV at h
 refine cq 8 [58] [B (decide (x12.1<(ai (u11.2.1 - 1))))] 66 ?_
 refine sq h ?_ ?_<;>intro h
 ·refine aq 1 ?_
  refine aq 2 ?_
  refine dK [0,0,0,0,8,0,0,64,224,480,0,0,3072,7168,16355,32739,65535,131071] rfl (by decide +kernel) ?_
  refine dk 8 [68,67,66,65,64,63,62,61] [I (ai (x12.1+1)),I x12.1,.hs 1 0 [] 1 0 (x12.2.map I).length,I (ai (x12.1+1)),I x12.1,.hs 1 0 [] 1 0 (x12.2.map I).length,I x12.1,.hs 1 0 [] 1 0 (x12.2.map I).length] ?_
  obtain⟨e13,he13,h⟩:=bS h
  refine dq [1] [] (.hp 1 0 [] 1 (0+Int.toNat (ai (x12.1+1))) 0) rfl (aj rfl rfl rfl (dD (f:=I) (xs:=x12.2) rfl rfl rfl he13)) ?_
  refine dq [1] [] (I e13) rfl (aN rfl (fH (path:=[]) rfl rfl rfl aW (cS (f:=I) (xs:=x12.2) he13) rfl rfl rfl)) ?_
  refine dk 2 [72,71] [I x12.1,.hs 1 0 [] 1 0 (x12.2.map I).length] ?_
  obtain⟨e14,he14,h⟩:=bS h
  refine dq [1] [] (.hp 1 0 [] 1 (0+Int.toNat x12.1) 0) rfl (aj rfl rfl rfl (dD (f:=I) (xs:=x12.2) rfl rfl rfl he14)) ?_
  refine dq [1] [] (I e14) rfl (aN rfl (fH (path:=[]) rfl rfl rfl aW (cS (f:=I) (xs:=x12.2) he14) rfl rfl rfl)) ?_
  obtain⟨e15,he15,h⟩:=bS h
  refine dq [1] [] (.hp 1 0 [] 1 (0+Int.toNat x12.1) 0) rfl (aj rfl rfl rfl (dD (f:=I) (xs:=x12.2) rfl rfl rfl he15)) ?_
  refine dz [1] [1] rfl (fQ rfl rfl (eY (path:=[]) (pl:=true) (e':=I e13) (es2':=(cX x12.2 x12.1 e13).map I) rfl (dJ rfl) rfl rfl rfl aW (cS (f:=I) (xs:=x12.2) he15) rfl rfl rfl (iw (f:=I) (xs:=x12.2) (y:=e13)) ey 0 rfl)) ?_
  try rw[←gI (f:=I) (xs:=x12.2) (i:=x12.1) (z:=e13)]
  obtain⟨e18,he18,h⟩:=bS h
  refine dq [1] [] (.hp 1 0 [] 1 (0+Int.toNat (ai (x12.1+1))) 0) rfl (aj rfl rfl rfl (dD (f:=I) (xs:=(cX x12.2 x12.1 e13)) rfl rfl rfl he18)) ?_
  obtain⟨rw19,hrw19,h⟩:=lJ h
  refine dz [1] [1] rfl (fQ rfl rfl (eY (path:=[]) (pl:=true) (e':=I e14) (es2':=(rw19).map I) rfl (dJ rfl) rfl rfl rfl aW (cS (f:=I) (xs:=(cX x12.2 x12.1 e13)) he18) rfl rfl rfl (vI (f:=I) (xs:=(cX x12.2 x12.1 e13)) (y:=e14) hrw19) ey 0 rfl)) ?_
  try rw[←sb hrw19 (f:=I) (xs:=(cX x12.2 x12.1 e13))]
  refine de 354 rfl rfl ?_
  refine cq 6 [13] [I (ai (x12.1+1))] 402 ?_
  refine cZ ?_
  exact rf [0,10,13] [1] (ih _ _ h hr hn :)
 ·refine aq 1 ?_
  exact rf [] [1] (hn _ (ak h) :) (hk:=hK)
theorem Nb (ay:((List Int)×Int×Int×Int×State)→Option (List Int))(al:List Int)(aP:Int)(aQ:Int)(aZ:Int)(aD:State):cj (gQ ay) 1 (gb ay (al,aP,aQ,aZ,aD)) NV 4 (oQ ay al aP aQ aZ aD) (fun u=>(sT 220 [(0,.hs 1 0 [] 1 0 (u.2.2.map I).length),(2,I u.1),(14,I u.2.1)] [⟨0,1,u.2.2.map I⟩] 2)) fun x25=>(sT 220 [(0,.hs 1 0 [] 1 0 (al.map I).length),(2,I aQ),(4,.fn 151 [.iptr (ae aD) 0]),(14,I x25.1),(15,I x25.2)] [⟨0,1,al.map I⟩] 2):=ef (zk ay al aP aQ aZ aD) fun {Q K} hK self ih x25 y h hr hn=>by
 unfold iW at h
 refine cq 7 [85] [B (decide (x25.1<x25.2))] 50 ?_
 refine sq h ?_ ?_<;>intro h
 ·refine aq 1 ?_
  refine cq 12 [16] [I (IntKind.i64.wrap (dY .u64 (IntKind.u64.wrap (ai (x25.1+x25.2))) 1))] 162 ?_
  refine dK [0,0,0,6,14,0,0,96,224,511,1023,2047] rfl (by decide +kernel) ?_
  refine dk 3 [94,93,92] [I aQ,.hs 1 0 [] 1 0 (al.map I).length,.fn 151 [.iptr (ae aD) 0]] ?_
  obtain⟨e26,he26,h⟩:=bS h
  refine dq [1] [] (.hp 1 0 [] 1 (0+Int.toNat aQ) 0) rfl (aj rfl rfl rfl (dD (f:=I) (xs:=al) rfl rfl rfl he26)) ?_
  refine dq [1] [] (I e26) rfl (aN rfl (fH (path:=[]) rfl rfl rfl aW (cS (f:=I) (xs:=al) he26) rfl rfl rfl)) ?_
  refine dk 2 [98,97] [I (IntKind.i64.wrap (dY .u64 (IntKind.u64.wrap (ai (x25.1+x25.2))) 1)),.hs 1 0 [] 1 0 (al.map I).length] ?_
  obtain⟨e27,he27,h⟩:=bS h
  refine dq [1] [] (.hp 1 0 [] 1 (0+Int.toNat (IntKind.i64.wrap (dY .u64 (IntKind.u64.wrap (ai (x25.1+x25.2))) 1))) 0) rfl (aj rfl rfl rfl (dD (f:=I) (xs:=al) rfl rfl rfl he27)) ?_
  refine dq [1] [] (I e27) rfl (aN rfl (fH (path:=[]) rfl rfl rfl aW (cS (f:=I) (xs:=al) he27) rfl rfl rfl)) ?_
  obtain⟨r28,hr28,h⟩:=bS h
  refine dq [] [] (I r28) rfl (cP (rQ hr28)) ?_ (dU rfl rfl rfl rfl (bC (cg rfl) (bC (cg rfl) (bC (cg rfl) dM))) (rQ hr28) (.inr rfl) rfl)
  refine dk 2 [103,102] [B (!(decide (r28<0))),B (decide (r28<0))] ?_
  refine de 354 rfl rfl ?_
  obtain⟨u29,hu29,h⟩:=lJ h
  have j29:Run (gQ ay) 1 Q (.blk 5::.lp NV::.blk 4::K) (sT 220 [(0,.hs 1 0 [] 1 0 (al.map I).length),(2,I aQ),(4,.fn 151 [.iptr (ae aD) 0]),(14,I u29.1),(15,I u29.2)] [⟨0,1,al.map I⟩] 2):=by
   refine aq 1 ?_
   refine cZ ?_
   exact rf [0,2,4,14,15] [1] (ih _ _ h hr hn :)
  replace h:=hu29
  clear hu29
  refine sn h rfl rfl ?_ ?_<;>intro h
  ·refine cq 5 [14] [I (ai ((IntKind.i64.wrap (dY .u64 (IntKind.u64.wrap (ai (x25.1+x25.2))) 1))+1))] 402 ?_
   subst h
   exact rf [0,2,4,14,15] [1] (j29 :)
  ·refine cq 4 [15] [I (IntKind.i64.wrap (dY .u64 (IntKind.u64.wrap (ai (x25.1+x25.2))) 1))] 386 ?_
   subst h
   exact rf [0,2,4,14,15] [1] (j29 :)
 ·refine aq 1 ?_
  exact rf [0,2,14] [1] (hn _ (ak h) :) (hk:=hK)
theorem Nc (ay:((List Int)×Int×Int×Int×State)→Option (List Int))(al:List Int)(aP:Int)(aQ:Int)(aZ:Int)(aD:State)(u30:Int×Int×(List Int)):cj (gQ ay) 1 (gb ay (al,aP,aQ,aZ,aD)) Yq 6 (jx ay al aP aQ aZ aD u30) (fun u=>(sT 220 [] [⟨0,1,u.map I⟩] 2)) fun x31=>(sT 220 [(0,.hs 1 0 [] 1 0 (x31.2.map I).length),(14,I u30.2.1),(17,I x31.1)] [⟨0,1,x31.2.map I⟩] 2):=ef (zl ay al aP aQ aZ aD u30) fun {Q K} hK self ih x31 y h hr hn=>by
 unfold iX at h
 refine cq 7 [110] [B (decide (x31.1>u30.2.1))] 50 ?_
 refine sq h ?_ ?_<;>intro h
 ·refine aq 1 ?_
  refine aq 2 ?_
  refine dK [0,0,0,0,8,0,0,64,224,480,0,0,3072,7168,16355,32739,65535,131071] rfl (by decide +kernel) ?_
  refine dk 8 [120,119,118,117,116,115,114,113] [I (ai (x31.1 - 1)),I x31.1,.hs 1 0 [] 1 0 (x31.2.map I).length,I (ai (x31.1 - 1)),I x31.1,.hs 1 0 [] 1 0 (x31.2.map I).length,I x31.1,.hs 1 0 [] 1 0 (x31.2.map I).length] ?_
  obtain⟨e32,he32,h⟩:=bS h
  refine dq [1] [] (.hp 1 0 [] 1 (0+Int.toNat (ai (x31.1 - 1))) 0) rfl (aj rfl rfl rfl (dD (f:=I) (xs:=x31.2) rfl rfl rfl he32)) ?_
  refine dq [1] [] (I e32) rfl (aN rfl (fH (path:=[]) rfl rfl rfl aW (cS (f:=I) (xs:=x31.2) he32) rfl rfl rfl)) ?_
  refine dk 2 [124,123] [I x31.1,.hs 1 0 [] 1 0 (x31.2.map I).length] ?_
  obtain⟨e33,he33,h⟩:=bS h
  refine dq [1] [] (.hp 1 0 [] 1 (0+Int.toNat x31.1) 0) rfl (aj rfl rfl rfl (dD (f:=I) (xs:=x31.2) rfl rfl rfl he33)) ?_
  refine dq [1] [] (I e33) rfl (aN rfl (fH (path:=[]) rfl rfl rfl aW (cS (f:=I) (xs:=x31.2) he33) rfl rfl rfl)) ?_
  obtain⟨e34,he34,h⟩:=bS h
  refine dq [1] [] (.hp 1 0 [] 1 (0+Int.toNat x31.1) 0) rfl (aj rfl rfl rfl (dD (f:=I) (xs:=x31.2) rfl rfl rfl he34)) ?_
  refine dz [1] [1] rfl (fQ rfl rfl (eY (path:=[]) (pl:=true) (e':=I e32) (es2':=(cX x31.2 x31.1 e32).map I) rfl (dJ rfl) rfl rfl rfl aW (cS (f:=I) (xs:=x31.2) he34) rfl rfl rfl (iw (f:=I) (xs:=x31.2) (y:=e32)) ey 0 rfl)) ?_
  try rw[←gI (f:=I) (xs:=x31.2) (i:=x31.1) (z:=e32)]
  obtain⟨e37,he37,h⟩:=bS h
  refine dq [1] [] (.hp 1 0 [] 1 (0+Int.toNat (ai (x31.1 - 1))) 0) rfl (aj rfl rfl rfl (dD (f:=I) (xs:=(cX x31.2 x31.1 e32)) rfl rfl rfl he37)) ?_
  obtain⟨rw38,hrw38,h⟩:=lJ h
  refine dz [1] [1] rfl (fQ rfl rfl (eY (path:=[]) (pl:=true) (e':=I e33) (es2':=(rw38).map I) rfl (dJ rfl) rfl rfl rfl aW (cS (f:=I) (xs:=(cX x31.2 x31.1 e32)) he37) rfl rfl rfl (vI (f:=I) (xs:=(cX x31.2 x31.1 e32)) (y:=e33) hrw38) ey 0 rfl)) ?_
  try rw[←sb hrw38 (f:=I) (xs:=(cX x31.2 x31.1 e32))]
  refine de 338 rfl rfl ?_
  refine cq 6 [17] [I (ai (x31.1 - 1))] 386 ?_
  refine cZ ?_
  exact rf [0,14,17] [1] (ih _ _ h hr hn :)
 ·refine aq 1 ?_
  exact rf [] [1] (hn _ (ak h) :) (hk:=hK)
theorem Nd (ay:((List Int)×Int×Int×Int×State)→Option (List Int))(al:List Int)(aP:Int)(aQ:Int)(aZ:Int)(aD:State):cj (gQ ay) 1 (gb ay (al,aP,aQ,aZ,aD)) NW 8 (qL ay al aP aQ aZ aD) (fun u=>(sT 220 [(0,.hs 1 0 [] 1 0 (al.map I).length),(1,I aP),(2,I aQ),(3,I u.1),(4,.fn 151 [.iptr (ae aD) 0]),(18,I u.2.1),(19,I u.2.2.1),(20,I u.2.2.2)] [⟨0,1,al.map I⟩] 2)) fun x45=>(sT 220 [(0,.hs 1 0 [] 1 0 (al.map I).length),(1,I aP),(2,I aQ),(3,I aZ),(4,.fn 151 [.iptr (ae aD) 0]),(18,I (IntKind.i64.wrap (dY .u64 (IntKind.u64.wrap (ai (aP+aZ))) 1))),(19,I (ai ((IntKind.i64.wrap (dY .u64 (IntKind.u64.wrap (ai (aP+aZ))) 1))+aQ))),(20,I x45.1),(21,I x45.2),(22,I (ai ((ai ((IntKind.i64.wrap (dY .u64 (IntKind.u64.wrap (ai (aP+aZ))) 1))+aQ)) - 1)))] [⟨0,1,al.map I⟩] 2):=ef (zm ay al aP aQ aZ aD) fun {Q K} hK self ih x45 y h hr hn=>by
 unfold jT at h
 refine cq 7 [151] [B (decide (x45.1<x45.2))] 50 ?_
 refine sq h ?_ ?_<;>intro h
 ·refine aq 1 ?_
  refine cq 12 [23] [I (IntKind.i64.wrap (dY .u64 (IntKind.u64.wrap (ai (x45.1+x45.2))) 1))] 162 ?_
  refine dK [0,0,0,0,12,30,62,0,0,384,896,2047,4095,8191] rfl (by decide +kernel) ?_
  refine dk 5 [162,161,160,159,158] [I (ai ((ai ((ai ((IntKind.i64.wrap (dY .u64 (IntKind.u64.wrap (ai (aP+aZ))) 1))+aQ)) - 1)) - (IntKind.i64.wrap (dY .u64 (IntKind.u64.wrap (ai (x45.1+x45.2))) 1)))),I (IntKind.i64.wrap (dY .u64 (IntKind.u64.wrap (ai (x45.1+x45.2))) 1)),I (ai ((ai ((IntKind.i64.wrap (dY .u64 (IntKind.u64.wrap (ai (aP+aZ))) 1))+aQ)) - 1)),.hs 1 0 [] 1 0 (al.map I).length,.fn 151 [.iptr (ae aD) 0]] ?_
  obtain⟨e46,he46,h⟩:=bS h
  refine dq [1] [] (.hp 1 0 [] 1 (0+Int.toNat (ai ((ai ((ai ((IntKind.i64.wrap (dY .u64 (IntKind.u64.wrap (ai (aP+aZ))) 1))+aQ)) - 1)) - (IntKind.i64.wrap (dY .u64 (IntKind.u64.wrap (ai (x45.1+x45.2))) 1))))) 0) rfl (aj rfl rfl rfl (dD (f:=I) (xs:=al) rfl rfl rfl he46)) ?_
  refine dq [1] [] (I e46) rfl (aN rfl (fH (path:=[]) rfl rfl rfl aW (cS (f:=I) (xs:=al) he46) rfl rfl rfl)) ?_
  refine dk 2 [166,165] [I (IntKind.i64.wrap (dY .u64 (IntKind.u64.wrap (ai (x45.1+x45.2))) 1)),.hs 1 0 [] 1 0 (al.map I).length] ?_
  obtain⟨e47,he47,h⟩:=bS h
  refine dq [1] [] (.hp 1 0 [] 1 (0+Int.toNat (IntKind.i64.wrap (dY .u64 (IntKind.u64.wrap (ai (x45.1+x45.2))) 1))) 0) rfl (aj rfl rfl rfl (dD (f:=I) (xs:=al) rfl rfl rfl he47)) ?_
  refine dq [1] [] (I e47) rfl (aN rfl (fH (path:=[]) rfl rfl rfl aW (cS (f:=I) (xs:=al) he47) rfl rfl rfl)) ?_
  obtain⟨r48,hr48,h⟩:=bS h
  refine dq [] [] (I r48) rfl (cP (rQ hr48)) ?_ (dU rfl rfl rfl rfl (bC (cg rfl) (bC (cg rfl) (bC (cg rfl) dM))) (rQ hr48) (.inr rfl) rfl)
  refine dk 2 [171,170] [B (!(decide (r48<0))),B (decide (r48<0))] ?_
  refine de 386 rfl rfl ?_
  obtain⟨u49,hu49,h⟩:=lJ h
  have j49:Run (gQ ay) 1 Q (.blk 9::.lp NW::.blk 8::K) (sT 220 [(0,.hs 1 0 [] 1 0 (al.map I).length),(1,I aP),(2,I aQ),(3,I aZ),(4,.fn 151 [.iptr (ae aD) 0]),(18,I (IntKind.i64.wrap (dY .u64 (IntKind.u64.wrap (ai (aP+aZ))) 1))),(19,I (ai ((IntKind.i64.wrap (dY .u64 (IntKind.u64.wrap (ai (aP+aZ))) 1))+aQ))),(20,I u49.1),(21,I u49.2),(22,I (ai ((ai ((IntKind.i64.wrap (dY .u64 (IntKind.u64.wrap (ai (aP+aZ))) 1))+aQ)) - 1)))] [⟨0,1,al.map I⟩] 2):=by
   refine aq 1 ?_
   refine cZ ?_
   exact rf [0,1,2,3,4,18,19,20,21,22] [1] (ih _ _ h hr hn :)
  replace h:=hu49
  clear hu49
  refine sn h rfl rfl ?_ ?_<;>intro h
  ·refine cq 5 [20] [I (ai ((IntKind.i64.wrap (dY .u64 (IntKind.u64.wrap (ai (x45.1+x45.2))) 1))+1))] 434 ?_
   subst h
   exact rf [0,1,2,3,4,18,19,20,21,22] [1] (j49 :)
  ·refine cq 4 [21] [I (IntKind.i64.wrap (dY .u64 (IntKind.u64.wrap (ai (x45.1+x45.2))) 1))] 418 ?_
   subst h
   exact rf [0,1,2,3,4,18,19,20,21,22] [1] (j49 :)
 ·refine aq 1 ?_
  exact rf [0,1,2,3,4,18,19,20] [1] (hn _ (ak h) :) (hk:=hK)
theorem VM (ay:((List Int)×Int×Int×Int×State)→Option (List Int))(al:List Int)(aP:Int)(aQ:Int)(aZ:Int)(aD:State)(r:(List Int))(h:tx ay al aP aQ aZ aD=some r):bA (gQ ay) Tryz.f245 [true,false,false,false,false] 1 (wz (al,aP,aQ,aZ,aD)) (wA r):=by
 show Run _ _ (gb ay (al,aP,aQ,aZ,aD) r) [.code nM] _
 refine rI 220 [(0,.hs 1 0 [] 1 0 (al.map I).length),(1,I aP),(2,I aQ),(3,I aZ),(4,.fn 151 [.iptr (ae aD) 0])] [(1,some ⟨0,1,al.map I⟩)] 2 ?_
 unfold tx at h
 refine cq 8 [28] [B ((ai (aQ - aP))==1)] 66 ?_
 refine sq h ?_ ?_<;>intro h
 ·refine cq 12 [10,11] [I aQ,I aZ] 130 ?_
  obtain⟨y11,hy11,hy111,hy112⟩:=bJ h
  refine bN rfl ?_
  refine rf [0,1,4,10,11] [1] (M9 ay al aP aQ aZ aD rfl (aQ,aZ) _ hy11 (fun r' e st hq=>by rw[hy111 r' e] at hq;exact hq) fun u11 hu=>?_)
  replace h:=hy112 u11 hu
  refine cq 7 [13] [I u11.1] 34 ?_
  obtain⟨y23,hy23,hy231,hy232⟩:=bJ h
  refine bN rfl ?_
  refine rf [0,10,13] [1] (Na ay al aP aQ aZ aD u11 rfl (u11.1,u11.2.2) _ hy23 (fun r' e st hq=>by rw[hy231 r' e] at hq;exact hq) fun u23 hu=>?_)
  replace h:=hy232 u23 hu
  obtain⟨g24,h⟩:=gG h
  obtain rfl:=Option.some.inj h
  exact co rfl ⟨_,fin (vs:=[]) rfl eB rfl (lK rfl (pT (f:=I) (xs:=u23) (by simpa using g24) rfl) (dj (dj (dj (dj fw))))),xz fp⟩
 ·refine aq 1 ?_
  refine cq 8 [80] [B ((ai (aZ - aQ))==1)] 130 ?_
  refine sq h ?_ ?_<;>intro h
  ·refine cq 12 [14,15] [I aP,I aQ] 194 ?_
   obtain⟨y30,hy30,hy301,hy302⟩:=bJ h
   refine bN rfl ?_
   refine rf [0,2,4,14,15] [1] (Nb ay al aP aQ aZ aD rfl (aP,aQ) _ hy30 (fun r' e st hq=>by rw[hy301 r' e] at hq;exact hq) fun u30 hu=>?_)
   replace h:=hy302 u30 hu
   refine cq 7 [17] [I u30.1] 34 ?_
   obtain⟨y42,hy42,hy421,hy422⟩:=bJ h
   refine bN rfl ?_
   refine rf [0,14,17] [1] (Nc ay al aP aQ aZ aD u30 rfl (u30.1,u30.2.2) _ hy42 (fun r' e st hq=>by rw[hy421 r' e] at hq;exact hq) fun u42 hu=>?_)
   replace h:=hy422 u42 hu
   obtain⟨g43,h⟩:=gG h
   obtain rfl:=Option.some.inj h
   exact co rfl ⟨_,fin (vs:=[]) rfl eB rfl (lK rfl (pT (f:=I) (xs:=u42) (by simpa using g43) rfl) (dj (dj (dj (dj fw))))),xz fp⟩
  ·refine aq 1 ?_
   refine cq 29 [18,19,140] [I (IntKind.i64.wrap (dY .u64 (IntKind.u64.wrap (ai (aP+aZ))) 1)),I (ai ((IntKind.i64.wrap (dY .u64 (IntKind.u64.wrap (ai (aP+aZ))) 1))+aQ)),B (decide (aQ>(IntKind.i64.wrap (dY .u64 (IntKind.u64.wrap (ai (aP+aZ))) 1))))] 386 ?_
   obtain⟨u44,hu44,h⟩:=lJ h
   have j44:Run (gQ ay) 1 (gb ay (al,aP,aQ,aZ,aD) r) (.code (cR (cR (cR (cR (cR (cR nM))))))::[]) (sT 220 [(0,.hs 1 0 [] 1 0 (al.map I).length),(1,I aP),(2,I aQ),(3,I aZ),(4,.fn 151 [.iptr (ae aD) 0]),(18,I (IntKind.i64.wrap (dY .u64 (IntKind.u64.wrap (ai (aP+aZ))) 1))),(19,I (ai ((IntKind.i64.wrap (dY .u64 (IntKind.u64.wrap (ai (aP+aZ))) 1))+aQ))),(20,I u44.1),(21,I u44.2)] [⟨0,1,al.map I⟩] 2):=by
    refine cq 8 [22] [I (ai ((ai ((IntKind.i64.wrap (dY .u64 (IntKind.u64.wrap (ai (aP+aZ))) 1))+aQ)) - 1))] 50 ?_
    obtain⟨y50,hy50,hy501,hy502⟩:=bJ h
    refine bN rfl ?_
    refine rf [0,1,2,3,4,18,19,20,21,22] [1] (Nd ay al aP aQ aZ aD rfl (u44.1,u44.2) _ hy50 (fun r' e st hq=>by rw[hy501 r' e] at hq;exact hq) fun u50 hu=>?_)
    replace h:=hy502 u50 hu
    refine cq 14 [24,181] [I (ai (u50.2.2.1 - u50.2.2.2)),B (decide (u50.2.2.2<aQ))] 130 ?_
    obtain⟨u51,hu51,h⟩:=lJ h
    have j51:Run (gQ ay) 1 (gb ay (al,aP,aQ,aZ,aD) r) (.code (cR (cL (cR (cR (cR (cR (cR (cR (cR (cR (cR nM)))))))))))::.code xX::[]) (sT 220 [(0,.hs 1 0 [] 1 0 (al.map I).length),(1,I aP),(2,I aQ),(3,I u50.1),(4,.fn 151 [.iptr (ae aD) 0]),(18,I u50.2.1),(20,I u50.2.2.2),(24,I (ai (u50.2.2.1 - u50.2.2.2))),(185,B u51)] [⟨0,1,al.map I⟩] 2):=by
     obtain⟨y52,hy52,hy521,hy522⟩:=bJ h
     have j52:∀u52,y52=.inr u52→Run (gQ ay) 1 (gb ay (al,aP,aQ,aZ,aD) r) (.code xX::[]) (sT 220 [(0,.hs 1 0 [] 1 0 (u52.map I).length),(1,I aP),(3,I u50.1),(4,.fn 151 [.iptr (ae aD) 0]),(18,I u50.2.1),(20,I u50.2.2.2),(24,I (ai (u50.2.2.1 - u50.2.2.2)))] [⟨0,1,u52.map I⟩] 2):=by
      intro u52 hu
      replace h:=hy522 u52 hu
      refine cq 7 [195] [B (decide (aP<u50.2.2.2))] 66 ?_
      obtain⟨u53,hu53,h⟩:=lJ h
      have j53:Run (gQ ay) 1 (gb ay (al,aP,aQ,aZ,aD) r) (.code (cR (cL xX))::.code Hi::[]) (sT 220 [(0,.hs 1 0 [] 1 0 (u52.map I).length),(1,I aP),(3,I u50.1),(4,.fn 151 [.iptr (ae aD) 0]),(18,I u50.2.1),(20,I u50.2.2.2),(24,I (ai (u50.2.2.1 - u50.2.2.2))),(199,B u53)] [⟨0,1,u52.map I⟩] 2):=by
       obtain⟨y54,hy54,hy541,hy542⟩:=bJ h
       have j54:∀u54,y54=.inr u54→Run (gQ ay) 1 (gb ay (al,aP,aQ,aZ,aD) r) (.code Hi::[]) (sT 220 [(0,.hs 1 0 [] 1 0 (u54.map I).length),(3,I u50.1),(4,.fn 151 [.iptr (ae aD) 0]),(18,I u50.2.1),(24,I (ai (u50.2.2.1 - u50.2.2.2)))] [⟨0,1,u54.map I⟩] 2):=by
        intro u54 hu
        replace h:=hy542 u54 hu
        refine cq 6 [209] [B (decide (u50.2.1<(ai (u50.2.2.1 - u50.2.2.2))))] 66 ?_
        obtain⟨u55,hu55,h⟩:=lJ h
        have j55:Run (gQ ay) 1 (gb ay (al,aP,aQ,aZ,aD) r) (.code (cR Hi)::[]) (sT 220 [(0,.hs 1 0 [] 1 0 (u54.map I).length),(3,I u50.1),(4,.fn 151 [.iptr (ae aD) 0]),(18,I u50.2.1),(24,I (ai (u50.2.2.1 - u50.2.2.2))),(213,B u55)] [⟨0,1,u54.map I⟩] 2):=by
         obtain⟨y56,hy56,hy561,hy562⟩:=bJ h
         have j56:∀u56,y56=.inr u56→Run (gQ ay) 1 (gb ay (al,aP,aQ,aZ,aD) r) ([]) (sT 220 [] [⟨0,1,u56.map I⟩] 2):=by
          intro u56 hu
          replace h:=hy562 u56 hu
          obtain⟨g57,h⟩:=gG h
          obtain rfl:=Option.some.inj h
          exact yA ⟨_,fin (vs:=[]) rfl eB rfl (lK rfl (pT (f:=I) (xs:=u56) (by simpa using g57) rfl) (dj (dj (dj (dj fw))))),xz fp⟩
         have r56:∀r',y56=.inl r'→∀st,gb ay (al,aP,aQ,aZ,aD) r' st→(gb ay (al,aP,aQ,aZ,aD) r) st:=fun r' e st hq=>by rw[hy561 r' e] at hq;exact hq
         replace h:=hy56
         refine sq h ?_ ?_<;>intro h
         ·refine cq 6 [214,215,216,217,218] [.hs 1 0 [] 1 0 (u54.map I).length,I u50.2.1,I (ai (u50.2.2.1 - u50.2.2.2)),I u50.1,.fn 151 [.iptr (ae aD) 0]] 82 ?_
          obtain⟨r58,hr58,h⟩:=bS h
          obtain⟨g59,h⟩:=gG h
          refine oq 98 (.tup []) rfl (cm rfl rfl (cU rfl rfl rfl (kV (jY rfl (f6 (path:=[]) rfl rfl aW rfl)) (bC (cg rfl) (bC (cg rfl) (bC (cg rfl) (bC (ow (dX (fU rfl) im)) dM))))) (Hh ay hr58) (.inr rfl) (jg rfl rfl rfl rfl ew) rfl rfl rfl)) ?_
          try rw[iu (f:=I) (xs:=u54) (ys:=r58) g59]
          refine aq 1 ?_
          exact rf [] [1] (j56 _ (ak h) :)
         ·refine aq 1 ?_
          exact rf [] [1] (j56 _ (ak h) :)
        replace h:=hu55
        clear hu55
        refine sp 209 h rfl ?_ ?_<;>intro h
        ·refine cq 5 [213] [B (decide ((ai (u50.2.2.1 - u50.2.2.2))<u50.1))] 130 ?_
         subst h
         exact rf [0,3,4,18,24,213] [1] (j55 :)
        ·refine cq 5 [213] [B false] 130 ?_
         subst h
         exact rf [0,3,4,18,24,213] [1] (j55 :)
       have r54:∀r',y54=.inl r'→∀st,gb ay (al,aP,aQ,aZ,aD) r' st→(gb ay (al,aP,aQ,aZ,aD) r) st:=fun r' e st hq=>by rw[hy541 r' e] at hq;exact hq
       replace h:=hy54
       refine sq h ?_ ?_<;>intro h
       ·refine cq 6 [200,201,202,203,204] [.hs 1 0 [] 1 0 (u52.map I).length,I aP,I u50.2.2.2,I u50.2.1,.fn 151 [.iptr (ae aD) 0]] 82 ?_
        obtain⟨r60,hr60,h⟩:=bS h
        obtain⟨g61,h⟩:=gG h
        refine oq 98 (.tup []) rfl (cm rfl rfl (cU rfl rfl rfl (kV (jY rfl (f6 (path:=[]) rfl rfl aW rfl)) (bC (cg rfl) (bC (cg rfl) (bC (cg rfl) (bC (ow (dX (fU rfl) im)) dM))))) (Hh ay hr60) (.inr rfl) (jg rfl rfl rfl rfl ew) rfl rfl rfl)) ?_
        try rw[iu (f:=I) (xs:=u52) (ys:=r60) g61]
        refine aq 1 ?_
        exact rf [0,3,4,18,24] [1] (j54 _ (ak h) :)
       ·refine aq 1 ?_
        exact rf [0,3,4,18,24] [1] (j54 _ (ak h) :)
      replace h:=hu53
      clear hu53
      refine sp 195 h rfl ?_ ?_<;>intro h
      ·refine cq 5 [199] [B (decide (u50.2.2.2<u50.2.1))] 130 ?_
       subst h
       exact rf [0,1,3,4,18,20,24,199] [1] (j53 :)
      ·refine cq 5 [199] [B false] 130 ?_
       subst h
       exact rf [0,1,3,4,18,20,24,199] [1] (j53 :)
     have r52:∀r',y52=.inl r'→∀st,gb ay (al,aP,aQ,aZ,aD) r' st→(gb ay (al,aP,aQ,aZ,aD) r) st:=fun r' e st hq=>by rw[hy521 r' e] at hq;exact hq
     replace h:=hy52
     refine sq h ?_ ?_<;>intro h
     ·refine cq 6 [186,187,188,189,190] [.hs 1 0 [] 1 0 (al.map I).length,I u50.2.2.2,I aQ,I (ai (u50.2.2.1 - u50.2.2.2)),.fn 151 [.iptr (ae aD) 0]] 82 ?_
      obtain⟨r62,hr62,h⟩:=bS h
      obtain⟨g63,h⟩:=gG h
      refine oq 98 (.tup []) rfl (cm rfl rfl (cU rfl rfl rfl (kV (jY rfl (f6 (path:=[]) rfl rfl aW rfl)) (bC (cg rfl) (bC (cg rfl) (bC (cg rfl) (bC (ow (dX (fU rfl) im)) dM))))) (aa7 hr62) (.inr rfl) (jg rfl rfl rfl rfl ew) rfl rfl rfl)) ?_
      try rw[iu (f:=I) (xs:=al) (ys:=r62) g63]
      refine aq 1 ?_
      exact rf [0,1,3,4,18,20,24] [1] (j52 _ (ak h) :)
     ·refine aq 1 ?_
      exact rf [0,1,3,4,18,20,24] [1] (j52 _ (ak h) :)
    replace h:=hu51
    clear hu51
    refine sp 181 h rfl ?_ ?_<;>intro h
    ·refine cq 5 [185] [B (decide (aQ<(ai (u50.2.2.1 - u50.2.2.2))))] 194 ?_
     subst h
     exact rf [0,1,2,3,4,18,20,24,185] [1] (j51 :)
    ·refine cq 5 [185] [B false] 194 ?_
     subst h
     exact rf [0,1,2,3,4,18,20,24,185] [1] (j51 :)
   replace h:=hu44
   clear hu44
   refine sn h rfl rfl ?_ ?_<;>intro h
   ·refine cq 11 [20,21] [I (ai ((ai ((IntKind.i64.wrap (dY .u64 (IntKind.u64.wrap (ai (aP+aZ))) 1))+aQ)) - aZ)),I (IntKind.i64.wrap (dY .u64 (IntKind.u64.wrap (ai (aP+aZ))) 1))] 482 ?_
    subst h
    exact rf [0,1,2,3,4,18,19,20,21] [1] (j44 :)
   ·refine cq 9 [20,21] [I aP,I aQ] 450 ?_
    subst h
    exact rf [0,1,2,3,4,18,19,20,21] [1] (j44 :)
theorem Sp {G:Go.Ln.Ground}:aV Tryz.prog G 245 BC:=km fun ay g_Ffdd=>gT 5 1 (aM Lf (aM g_Ffdd (aM Sj bF))) ci Tryz.func245 (fun a r h=>VM ay a.1 a.2.1 a.2.2.1 a.2.2.2.1 a.2.2.2.2 r h)
noncomputable def Eq:((List Int)×Int×State)→List V:=cA (rC 1 I) (cA I (oA (fun x:State=>(.fn 151 [.iptr (bK x) 0]:V))))
noncomputable def Er (r:(List Int)):V×List V:=(.tup [],[.usl 1 (r.map I)])
noncomputable def BA:Ent:=bm [true,false,false] Eq Er fun x=>Bz x.1 x.2.1 x.2.2
theorem aa8 {bR:List Int}{n_7:Int}{bU:State}{r}(h:Bz bR n_7 bU=some r):BA.F (Eq (bR,n_7,bU))=some (Er r):=aI (aU (iQ bG) (aU bG (aJ (jG cd)))) h
noncomputable def KL:Code:=aG Tryz.f204
noncomputable abbrev xW:Code:=cL (cL (cR (cR (cR (cR KL)))))
noncomputable abbrev Yn:Code:=cL (cL (cL (cR (cL (cR xW)))))
noncomputable def tt:Env:=b7 Tryz.prog [(244,Bw),(245,BC)]
noncomputable def wy (x:(List Int)×Int×State)(r:(List Int)):St→Prop:=QF tt Tryz.f204 [true,false,false] (Eq x) (Er r)
theorem M5 (bR:List Int)(n_7:Int)(bU:State):cj tt 1 (wy (bR,n_7,bU)) (cL (cL (cL (cR (cR KL))))) 0 (tu bR n_7 bU) (fun u=>(sT 63 [(0,.hs 1 0 [] 1 0 (u.2.2.map I).length),(1,I u.1),(2,.fn 151 [.iptr (ae bU) 0]),(6,I (20)),(7,I u.2.1)] [⟨0,1,u.2.2.map I⟩] 2)) fun x4=>(sT 63 [(0,.hs 1 0 [] 1 0 (x4.2.2.map I).length),(1,I n_7),(2,.fn 151 [.iptr (ae bU) 0]),(6,I (20)),(7,I x4.1),(8,I x4.2.1)] [⟨0,1,x4.2.2.map I⟩] 2):=ef (ze bR n_7 bU) fun {Q K} hK self ih x4 y h hr hn=>by
 unfold jS at h
 refine cq 7 [13] [B (decide (x4.2.1≤n_7))] 50 ?_
 refine sq h ?_ ?_<;>intro h
 ·refine aq 1 ?_
  refine cq 7 [14,15,16,17] [.hs 1 0 [] 1 0 (x4.2.2.map I).length,I x4.1,I x4.2.1,.fn 151 [.iptr (ae bU) 0]] 114 ?_
  obtain⟨r5,hr5,h⟩:=bS h
  obtain⟨g6,h⟩:=gG h
  refine oq 130 (.tup []) rfl (cm rfl rfl (cU rfl rfl rfl (kV (jY rfl (f6 (path:=[]) rfl rfl aW rfl)) (bC (cg rfl) (bC (cg rfl) (bC (ow (dX (fU rfl) im)) dM)))) (Sh hr5) (.inr rfl) (jg rfl rfl rfl rfl ew) rfl rfl rfl)) ?_
  try rw[iu (f:=I) (xs:=x4.2.2) (ys:=r5) g6]
  refine cq 13 [7,8] [I x4.2.1,I (ai (x4.2.1+20))] 226 ?_
  refine cZ ?_
  exact rf [0,1,2,6,7,8] [1] (ih _ _ h hr hn :)
 ·refine aq 1 ?_
  exact rf [0,1,2,6,7] [1] (hn _ (ak h) :) (hk:=hK)
theorem M7 (bR:List Int)(n_7:Int)(bU:State)(u7:Int×Int×(List Int))(x10:Int×(List Int)):cj tt 1 (wy (bR,n_7,bU)) Yn 4 (tw bR n_7 bU u7 x10) (fun u=>(sT 63 [(0,.hs 1 0 [] 1 0 (u.2.map I).length),(1,I u7.1),(2,.fn 151 [.iptr (ae bU) 0]),(6,I x10.1),(7,I u.1)] [⟨0,1,u.2.map I⟩] 2)) fun x11=>(sT 63 [(0,.hs 1 0 [] 1 0 (x11.2.2.map I).length),(1,I u7.1),(2,.fn 151 [.iptr (ae bU) 0]),(6,I x10.1),(7,I x11.1),(8,I x11.2.1)] [⟨0,1,x11.2.2.map I⟩] 2):=ef (zg bR n_7 bU u7 x10) fun {Q K} hK self ih x11 y h hr hn=>by
 unfold ng at h
 refine cq 7 [35] [B (decide (x11.2.1≤u7.1))] 50 ?_
 refine sq h ?_ ?_<;>intro h
 ·refine aq 1 ?_
  refine cq 10 [36,37,40,41,42] [.hs 1 0 [] 1 0 (x11.2.2.map I).length,I x11.1,I (ai (x11.1+x10.1)),I x11.2.1,.fn 151 [.iptr (ae bU) 0]] 162 ?_
  obtain⟨r12,hr12,h⟩:=bS h
  obtain⟨g13,h⟩:=gG h
  refine oq 178 (.tup []) rfl (cm rfl rfl (cU rfl rfl rfl (kV (jY rfl (f6 (path:=[]) rfl rfl aW rfl)) (bC (cg rfl) (bC (cg rfl) (bC (cg rfl) (bC (ow (dX (fU rfl) im)) dM))))) (So hr12) (.inr rfl) (jg rfl rfl rfl rfl ew) rfl rfl rfl)) ?_
  try rw[iu (f:=I) (xs:=x11.2.2) (ys:=r12) g13]
  refine cq 14 [7,8] [I x11.2.1,I (ai (x11.2.1+(ai (2*x10.1))))] 290 ?_
  refine cZ ?_
  exact rf [0,1,2,6,7,8] [1] (ih _ _ h hr hn :)
 ·refine aq 1 ?_
  exact rf [0,1,2,6,7] [1] (hn _ (ak h) :) (hk:=hK)
theorem M6 (bR:List Int)(n_7:Int)(bU:State)(u7:Int×Int×(List Int)):cj tt 1 (wy (bR,n_7,bU)) xW 2 (tv bR n_7 bU u7) (fun u=>(sT 63 [] [⟨0,1,u.map I⟩] 2)) fun x10=>(sT 63 [(0,.hs 1 0 [] 1 0 (x10.2.map I).length),(1,I u7.1),(2,.fn 151 [.iptr (ae bU) 0]),(6,I x10.1)] [⟨0,1,x10.2.map I⟩] 2):=ef (zf bR n_7 bU u7) fun {Q K} hK self ih x10 y h hr hn=>by
 unfold iT at h
 refine cq 7 [30] [B (decide (x10.1<u7.1))] 50 ?_
 refine sq h ?_ ?_<;>intro h
 ·refine aq 1 ?_
  refine cq 10 [7,8] [I (0),I (ai (2*x10.1))] 114 ?_
  obtain⟨y14,hy14,hy141,hy142⟩:=bL h
  refine bN rfl ?_
  refine rf [0,1,2,6,7,8] [1] (M7 bR n_7 bU u7 x10 rfl (0,(ai (2*x10.1)),x10.2) _ hy14 (fun r' e st hq=>hr r' (hy141 r' e) st hq) fun u14 hu=>?_)
  replace h:=hy142 u14 hu
  refine cq 14 [9,54] [I (ai (u14.1+x10.1)),B (decide ((ai (u14.1+x10.1))<u7.1))] 114 ?_
  obtain⟨y15,hy15,hy151,hy152⟩:=bL h
  have j15:∀u15,y15=.inr u15→Run tt 1 Q (.code (cR (cR (cR (cL (cR xW)))))::.blk 3::.lp xW::.blk 2::K) (sT 63 [(0,.hs 1 0 [] 1 0 (u15.map I).length),(1,I u7.1),(2,.fn 151 [.iptr (ae bU) 0]),(6,I x10.1)] [⟨0,1,u15.map I⟩] 2):=by
   intro u15 hu
   replace h:=hy152 u15 hu
   refine cq 6 [6] [I (ai (x10.1*2))] 50 ?_
   refine cZ ?_
   exact rf [0,1,2,6] [1] (ih _ _ h hr hn :)
  have r15:∀r',y15=.inl r'→∀st,wy (bR,n_7,bU) r' st→Q st:=fun r' e st hq=>hr r' (hy151 r' e) st hq
  replace h:=hy15
  refine sq h ?_ ?_<;>intro h
  ·refine cq 6 [55,56,57,58,59] [.hs 1 0 [] 1 0 (u14.2.map I).length,I u14.1,I (ai (u14.1+x10.1)),I u7.1,.fn 151 [.iptr (ae bU) 0]] 194 ?_
   obtain⟨r16,hr16,h⟩:=bS h
   obtain⟨g17,h⟩:=gG h
   refine oq 210 (.tup []) rfl (cm rfl rfl (cU rfl rfl rfl (kV (jY rfl (f6 (path:=[]) rfl rfl aW rfl)) (bC (cg rfl) (bC (cg rfl) (bC (cg rfl) (bC (ow (dX (fU rfl) im)) dM))))) (So hr16) (.inr rfl) (jg rfl rfl rfl rfl ew) rfl rfl rfl)) ?_
   try rw[iu (f:=I) (xs:=u14.2) (ys:=r16) g17]
   refine aq 1 ?_
   exact rf [0,1,2,6] [1] (j15 _ (ak h) :)
  ·refine aq 1 ?_
   exact rf [0,1,2,6] [1] (j15 _ (ak h) :)
 ·refine aq 1 ?_
  exact rf [] [1] (hn _ (ak h) :) (hk:=hK)
theorem VJ (bR:List Int)(n_7:Int)(bU:State)(r:(List Int))(h:Bz bR n_7 bU=some r):bA tt Tryz.f204 [true,false,false] 1 (Eq (bR,n_7,bU)) (Er r):=by
 show Run _ _ (wy (bR,n_7,bU) r) [.code KL] _
 refine rI 63 [(0,.hs 1 0 [] 1 0 (bR.map I).length),(1,I n_7),(2,.fn 151 [.iptr (ae bU) 0])] [(1,some ⟨0,1,bR.map I⟩)] 2 ?_
 unfold Bz at h
 refine cq 12 [6,7,8] [I (20),I (0),I (20)] 66 ?_
 obtain⟨y7,hy7,hy71,hy72⟩:=bJ h
 refine bN rfl ?_
 refine rf [0,1,2,6,7,8] [1] (M5 bR n_7 bU rfl (0,20,bR) _ hy7 (fun r' e st hq=>by rw[hy71 r' e] at hq;exact hq) fun u7 hu=>?_)
 replace h:=hy72 u7 hu
 refine cq 6 [23,24,25,26] [.hs 1 0 [] 1 0 (u7.2.2.map I).length,I u7.2.1,I u7.1,.fn 151 [.iptr (ae bU) 0]] 66 ?_
 obtain⟨r8,hr8,h⟩:=bS h
 obtain⟨g9,h⟩:=gG h
 refine oq 82 (.tup []) rfl (cm rfl rfl (cU rfl rfl rfl (kV (jY rfl (f6 (path:=[]) rfl rfl aW rfl)) (bC (cg rfl) (bC (cg rfl) (bC (ow (dX (fU rfl) im)) dM)))) (Sh hr8) (.inr rfl) (jg rfl rfl rfl rfl ew) rfl rfl rfl)) ?_
 try rw[iu (f:=I) (xs:=u7.2.2) (ys:=r8) g9]
 refine aq 2 ?_
 obtain⟨y18,hy18,hy181,hy182⟩:=bJ h
 refine bN rfl ?_
 refine rf [0,1,2,6] [1] (M6 bR n_7 bU u7 rfl (20,r8) _ hy18 (fun r' e st hq=>by rw[hy181 r' e] at hq;exact hq) fun u18 hu=>?_)
 replace h:=hy182 u18 hu
 obtain⟨g19,h⟩:=gG h
 obtain rfl:=Option.some.inj h
 exact yA ⟨_,fin (vs:=[]) rfl eB rfl (lK rfl (pT (f:=I) (xs:=u18) (by simpa using g19) rfl) (dj (dj fw))),xz fp⟩
theorem Sk {G:Go.Ln.Ground}:aV Tryz.prog G 204 BA:=gT 3 1 (aM Si (aM Sp bF)) ci Tryz.func204 (fun a r h=>VJ a.1 a.2.1 a.2.2 r h)
noncomputable def Eg:((List Int)×State)→List V:=cA (rC 1 I) (oA (fun x:State=>(.fn 151 [.iptr (bK x) 0]:V)))
noncomputable def Eh (r:(List Int)):V×List V:=(.tup [],[.usl 1 (r.map I)])
noncomputable def Bv:Ent:=bm [true,false] Eg Eh fun x=>uJ x.1 x.2
theorem aa4 {x_3:List Int}{pt:State}{r}(h:uJ x_3 pt=some r):Bv.F (Eg (x_3,pt))=some (Eh r):=aI (aU (iQ bG) (aJ (jG cd))) h
noncomputable def aa6:Code:=aG Tryz.f150
noncomputable def Sf:Env:=b7 Tryz.prog [(204,BA)]
noncomputable def aa5 (x:(List Int)×State)(r:(List Int)):St→Prop:=QF Sf Tryz.f150 [true,false] (Eg x) (Eh r)
theorem VF (x_3:List Int)(pt:State)(r:(List Int))(h:uJ x_3 pt=some r):bA Sf Tryz.f150 [true,false] 1 (Eg (x_3,pt)) (Eh r):=by
 show Run _ _ (aa5 (x_3,pt) r) [.code aa6] _
 refine rI 9 [(0,.hs 1 0 [] 1 0 (x_3.map I).length),(1,.fn 151 [.iptr (ae pt) 0])] [(1,some ⟨0,1,x_3.map I⟩)] 2 ?_
 unfold uJ at h
 refine cq 3 [4,5] [.hs 1 0 [] 1 0 (x_3.map I).length,.hs 1 0 [] 1 0 (x_3.map I).length] 34 ?_
 refine oq 50 (I (len x_3)) rfl (bu rfl rfl rfl (qv (f:=I) (xs:=x_3) rfl rfl)) ?_
 refine cq 1 [7] [.fn 151 [.iptr (ae pt) 0]] 66 ?_
 obtain⟨r3,hr3,h⟩:=bS h
 obtain⟨g4,h⟩:=gG h
 refine oq 82 (.tup []) rfl (cm rfl rfl (cU rfl rfl rfl (kV (jY rfl (f6 (path:=[]) rfl rfl aW rfl)) (bC (cg rfl) (bC (ow (dX (fU rfl) im)) dM))) (aa8 hr3) (.inr rfl) (jg rfl rfl rfl rfl ew) rfl rfl rfl)) ?_
 try rw[iu (f:=I) (xs:=x_3) (ys:=r3) g4]
 refine aq 1 ?_
 obtain⟨g5,h⟩:=gG h
 obtain rfl:=Option.some.inj h
 exact yA ⟨_,fin (vs:=[]) rfl eB rfl (lK rfl (pT (f:=I) (xs:=r3) (by simpa using g5) rfl) (dj fw)),xz fp⟩
theorem Sg {G:Go.Ln.Ground}:aV Tryz.prog G 150 Bv:=gT 2 1 (aM Sk bF) ci Tryz.func150 (fun a r h=>VF a.1 a.2 r h)
noncomputable def JC:(Contract×State×Unit)→List V:=cA aX (cA bK (oA (fun x:Unit=>(.fn 87 []:V))))
noncomputable def JE (r:(List Int)):V×List V:=(.usl 1 (r.map I),[])
noncomputable def Hv:Ent:=bm [false,false,false] JC JE fun x=>Lg x.1 x.2.1 x.2.2
theorem acD {c_1:Contract}{s_2:State}{eA:Unit}{r}(h:Lg c_1 s_2 eA=some r):Hv.F (JC (c_1,s_2,eA))=some (JE r):=aI (aU bn (aU cd (aJ (HO )))) h
noncomputable def XU:Code:=aG Tryz.f86
noncomputable abbrev tS:Code:=cL (cL (cR (cL (cR (cR XU)))))
noncomputable def FX:Env:=b7 Tryz.prog [(87,Hp),(150,Bv)]
noncomputable def JD (x:Contract×State×Unit)(r:(List Int)):St→Prop:=QF FX Tryz.f86 [false,false,false] (JC x) (JE r)
theorem Pk (c_1:Contract)(s_2:State)(eA:Unit):cj FX 0 (JD (c_1,s_2,eA)) tS 0 (pJ c_1 s_2 eA) (fun u=>(sT 42 [(4,.hp 1 0 [] 5 0 0),(7,.hs 2 0 [] 1 0 (u.map I).length)] [⟨0,5,[ae s_2]⟩,⟨0,1,u.map I⟩] 3)) fun x4=>(sT 42 [(2,.fn 87 []),(3,.hp 1 0 [] 2 0 0),(4,.hp 2 0 [] 5 0 0),(7,.hs 3 0 [] 1 0 (x4.2.map I).length),(12,.isl false (s_2.Duties.map ah)),(13,I (len s_2.Duties)),(14,I x4.1)] [⟨0,2,[aa c_1]⟩,⟨0,5,[ae s_2]⟩,⟨0,1,x4.2.map I⟩] 4):=ef (FY c_1 s_2 eA) fun {Q K} hK self ih x4 y h hr hn=>by
 unfold mD at h
 refine cq 5 [15] [B (decide (x4.1<(len s_2.Duties)))] 20 ?_
 refine sq h ?_ ?_<;>intro h
 ·refine aq 1 ?_
  refine cq 5 [16] [I x4.1] 36 ?_
  obtain⟨e5,he5,h⟩:=bS h
  refine oq 52 (.iptr (ah e5) 0) rfl (aj rfl rfl rfl (bd rfl rfl rfl rfl he5)) ?_
  refine ck 6 [8,9] [] [68] [] [I x4.1,.hp 68 0 [] 4 0 0] [some ⟨0,4,[ah e5]⟩] 116 (by kernel_rfl) ?_
  refine dK [0,1,3,7,15,15,15,79,15,271,975,1999,4095,8191] rfl (by decide +kernel) ?_
  refine dq [68] [] (.hp 68 0 [] 4 0 3) rfl (an rfl rfl rfl) ?_
  refine dq [68] [] (I e5.Status) rfl (aN rfl rfl) ?_
  refine dk 2 [22,21] [B (e5.Status==1),B (e5.Status==1)] ?_
  obtain⟨y6,hy6,hy61,hy62⟩:=bL h
  have j6:∀u6,y6=.inr u6→Run FX 0 Q (.code (cR (cR (cL (cL (cR (cR tS))))))::.blk 1::.code (cR (cR (cR tS)))::.lp tS::.blk 0::K) (sT 42 [(2,.fn 87 []),(3,.hp 1 0 [] 2 0 0),(4,.hp 2 0 [] 5 0 0),(7,.hs 3 0 [] 1 0 (x4.2.map I).length),(8,I x4.1),(12,.isl false (s_2.Duties.map ah)),(13,I (len s_2.Duties)),(14,I x4.1),(32,B u6)] [⟨0,2,[aa c_1]⟩,⟨0,5,[ae s_2]⟩,⟨0,1,x4.2.map I⟩] 4):=by
   intro u6 hu
   replace h:=hy62 u6 hu
   obtain⟨y7,hy7,hy71,hy72⟩:=bL h
   have j7:∀u7,y7=.inr u7→Run FX 0 Q (.blk 1::.code (cR (cR (cR tS)))::.lp tS::.blk 0::K) (sT 42 [(2,.fn 87 []),(3,.hp 1 0 [] 2 0 0),(4,.hp 2 0 [] 5 0 0),(7,.hs 3 0 [] 1 0 (u7.map I).length),(12,.isl false (s_2.Duties.map ah)),(13,I (len s_2.Duties)),(14,I x4.1)] [⟨0,2,[aa c_1]⟩,⟨0,5,[ae s_2]⟩,⟨0,1,u7.map I⟩] 4):=by
    intro u7 hu
    replace h:=hy72 u7 hu
    refine cq 5 [14] [I (ai (x4.1+1))] 36 ?_
    refine cZ ?_
    exact rf [2,3,4,7,12,13,14] [1,2,3] (ih _ _ h hr hn :)
   have r7:∀r',y7=.inl r'→∀st,JD (c_1,s_2,eA) r' st→Q st:=fun r' e st hq=>hr r' (hy71 r' e) st hq
   replace h:=hy7
   refine sq h ?_ ?_<;>intro h
   ·refine cq 3 [33,34] [.hs 3 0 [] 1 0 (x4.2.map I).length,I x4.1] 36 ?_
    refine oq 52 (.hs 36 0 [] 1 0 1) rfl (fa rfl (mu (f:=I) (xs:=[]) (z:=I (0)) (es:=[I x4.1]) (ws:=[I x4.1]) rfl rfl rfl (by decide) rfl (ed rfl) rfl)) ?_
    obtain⟨a8,ha8,h⟩:=bS h
    refine oq 68 (.hs 52 0 [] 1 0 (a8.map I).length) rfl (kf rfl rfl rfl rfl rfl (nT (path:=[]) (f:=I) (xs:=x4.2) (ys:=[x4.1]) rfl rfl (uz rfl rfl rfl) rfl rfl rfl aW rfl (by decide) qQ ha8 rfl rB)) ?_
    refine cq 2 [7] [.hs 52 0 [] 1 0 (a8.map I).length] 84 ?_
    exact rf [2,3,4,7,12,13,14] [1,2,52] (j7 _ (ak h) :)
   ·refine aq 1 ?_
    exact rf [2,3,4,7,12,13,14] [1,2,3] (j7 _ (ak h) :)
  have r6:∀r',y6=.inl r'→∀st,JD (c_1,s_2,eA) r' st→Q st:=fun r' e st hq=>hr r' (hy61 r' e) st hq
  replace h:=hy6
  refine sp 22 h rfl ?_ ?_<;>intro h
  ·refine dk 1 [23] [.fn 87 []] ?_
   refine dy [68] [] (ah e5) rfl (aN rfl rfl) ?_
   refine dy [1] [] (.hp 1 0 [] 2 0 1) rfl (an rfl rfl rfl) ?_
   refine dy [1] [] (.isl false (c_1.Clauses.map au)) rfl (aN rfl rfl) ?_
   refine dy [68] [] (.hp 68 0 [] 4 0 0) rfl (an rfl rfl rfl) ?_
   refine dy [68] [] (I e5.Clause) rfl (aN rfl rfl) ?_
   obtain⟨e9,he9,h⟩:=bS h
   refine dy [] [] (.iptr (az e9) 0) rfl (aj rfl rfl rfl (bd rfl rfl rfl rfl he9)) ?_
   refine dy [] [] (az e9) rfl (aN rfl rfl) ?_
   obtain⟨r10,hr10,h⟩:=bS h
   refine dy [] [] (B r10) rfl (cP (XO hr10)) ?_ (dU rfl rfl rfl rfl (bC (cg rfl) (bC (cg rfl) dM)) (XO hr10) (.inr rfl) rfl)
   refine dk 1 [32] [B r10] ?_
   refine de 340 rfl rfl ?_
   exact rf [2,3,4,7,8,12,13,14,32] [1,2,3] (j6 _ (ak h) :)
  ·refine dk 10 [32,31,30,29,28,27,26,25,24,23] [B false,.und,.und,.und,.und,.und,.und,.und,.und,.und] ?_
   refine de 340 rfl rfl ?_
   exact rf [2,3,4,7,8,12,13,14,32] [1,2,3] (j6 _ (ak h) :)
 ·refine aq 1 ?_
  exact rf [4,7] [2,3] (hn _ (ak h) :) (hk:=hK)
theorem YH (c_1:Contract)(s_2:State)(eA:Unit)(r:(List Int))(h:Lg c_1 s_2 eA=some r):bA FX Tryz.f86 [false,false,false] 0 (JC (c_1,s_2,eA)) (JE r):=by
 show Run _ _ (JD (c_1,s_2,eA) r) [.code XU] _
 refine rI 42 [(0,aa c_1),(1,ae s_2),(2,.fn 87 [])] [] 1 ?_
 unfold Lg at h
 refine ck 8 [3,4] [] [1,17] [] [.hp 1 0 [] 2 0 0,.hp 17 0 [] 5 0 0] [some ⟨0,2,[aa c_1]⟩,some ⟨0,5,[ae s_2]⟩] 49 (by kernel_rfl) ?_
 refine oq 65 (.hs 49 0 [] 1 0 0) rfl (fa rfl (mu (f:=I) (xs:=[]) (z:=I (0)) (es:=[]) (ws:=[]) rfl rfl rfl (by decide) rfl (ed rfl) rfl)) ?_
 refine cq 7 [7,12] [.hs 49 0 [] 1 0 0,.isl false (s_2.Duties.map ah)] 113 ?_
 refine oq 129 (I (len s_2.Duties)) rfl (bu rfl rfl rfl (bI rfl)) ?_
 refine cq 3 [14] [I (0)] 145 ?_
 obtain⟨y11,hy11,hy111,hy112⟩:=bJ h
 refine bN rfl ?_
 refine rf [2,3,4,7,12,13,14] [1,17,49] (Pk c_1 s_2 eA rfl (0,[]) _ hy11 (fun r' e st hq=>by rw[hy111 r' e] at hq;exact hq) fun u11 hu=>?_)
 replace h:=hy112 u11 hu
 refine cq 4 [38,39] [.hs 2 0 [] 1 0 (u11.map I).length,.fn 151 [.hp 1 0 [] 5 0 0]] 35 ?_
 obtain⟨r12,hr12,h⟩:=bS h
 obtain⟨g13,h⟩:=gG h
 refine oq 51 (.tup []) rfl (cm rfl rfl (cU rfl rfl rfl (kV (jY rfl (f6 (path:=[]) rfl rfl aW rfl)) (bC (ow (dX (ut (path:=[]) rfl rfl aW rfl rfl) im)) dM)) (aa4 hr12) (.inl (by simp[cW,dP,str,Cn (f:=I) Tt])) (jg rfl rfl rfl rfl ew) rfl rfl rfl)) ?_
 try rw[iu (f:=I) (xs:=u11) (ys:=r12) g13]
 refine cq 6 [6] [.hs 2 0 [] 1 0 (r12.map I).length] 83 ?_
 obtain rfl:=Option.some.inj h
 exact co rfl ⟨_,fin (vs:=[.hs 2 0 [] 1 0 (r12.map I).length]) rfl (gp (gc rfl (dV rfl rfl)) eB) rfl (dj (dj (dj fw))),fp⟩
theorem Wt {G:Go.Ln.Ground}:aV Tryz.prog G 86 Hv:=gT 3 0 (aM Wn (aM Sg bF)) ci Tryz.func86 (fun a r h=>YH a.1 a.2.1 a.2.2 r h)
noncomputable def Jo:(Contract×State)→List V:=cA aX (oA bK)
noncomputable def Jp (r:Int×Bool):V×List V:=(.tup [I r.1,B r.2],[])
noncomputable def Ho:Ent:=bm [false,false] Jo Jp fun x=>Lc x.1 x.2
theorem aco {c_1:Contract}{s_2:State}{r}(h:Lc c_1 s_2=some r):Ho.F (Jo (c_1,s_2))=some (Jp r):=aI (aU bn (aJ cd)) h
noncomputable def acq:Code:=aG Tryz.f27
noncomputable def XM:Env:=b7 Tryz.prog [(85,Hn),(86,Hv)]
noncomputable def acp (x:Contract×State)(r:Int×Bool):St→Prop:=QF XM Tryz.f27 [false,false] (Jo x) (Jp r)
theorem Yx (c_1:Contract)(s_2:State)(r:Int×Bool)(h:Lc c_1 s_2=some r):bA XM Tryz.f27 [false,false] 0 (Jo (c_1,s_2)) (Jp r):=by
 show Run _ _ (acp (c_1,s_2) r) [.code acq] _
 refine rI 25 [(0,aa c_1),(1,ae s_2)] [] 1 ?_
 unfold Lc at h
 refine ck 12 [2,3,7,8] [] [1,17] [] [.hp 1 0 [] 2 0 0,.hp 17 0 [] 5 0 0,aa c_1,ae s_2] [some ⟨0,2,[aa c_1]⟩,some ⟨0,5,[ae s_2]⟩] 97 (by kernel_rfl) ?_
 obtain⟨r3,hr3,h⟩:=bS h
 refine oq 113 (B r3) rfl (cP (acn hr3)) ?_
 refine cq 2 [10] [B (!r3)] 129 ?_
 refine sq h ?_ ?_<;>intro h
 ·refine cq 5 [4,5] [I (0),B false] 161 ?_
  obtain rfl:=Option.some.inj h
  exact rP [I (0),B false]
 ·refine aq 1 ?_
  refine cq 4 [11,12] [aa c_1,ae s_2] 161 ?_
  obtain⟨r4,hr4,h⟩:=bS h
  refine oq 177 (.hs 161 0 [] 1 0 (r4.map I).length) rfl (cP (acD hr4)) ?_
  refine cq 6 [6,14] [.hs 161 0 [] 1 0 (r4.map I).length,.hs 161 0 [] 1 0 (r4.map I).length] 209 ?_
  refine oq 225 (I (len r4)) rfl (bu rfl rfl rfl (qv (f:=I) (xs:=r4) rfl rfl)) ?_
  refine cq 2 [16] [B ((len r4)==0)] 241 ?_
  refine sq h ?_ ?_<;>intro h
  ·refine cq 5 [4,5] [I (-1),B true] 273 ?_
   obtain rfl:=Option.some.inj h
   exact rP [I (-1),B true]
  ·refine aq 1 ?_
   refine aq 1 ?_
   refine dK [0,1,0,4,12,31,63,127,255,511] rfl (by decide +kernel) ?_
   refine dq [17] [] (.hp 17 0 [] 5 0 2) rfl (an rfl rfl rfl) ?_
   refine dq [17] [] (.isl false (s_2.Duties.map ah)) rfl (aN rfl rfl) ?_
   refine dk 1 [19] [.hs 161 0 [] 1 0 (r4.map I).length] ?_
   obtain⟨e5,he5,h⟩:=bS h
   refine dq [161] [] (.hp 161 0 [] 1 (0+Int.toNat (0)) 0) rfl (aj rfl rfl rfl (dD (f:=I) (xs:=r4) rfl rfl rfl he5)) ?_
   refine dq [161] [] (I e5) rfl (aN rfl (fH (path:=[]) rfl rfl rfl aW (cS (f:=I) (xs:=r4) he5) rfl rfl rfl)) ?_
   obtain⟨e6,he6,h⟩:=bS h
   refine dq [] [] (.iptr (ah e6) 0) rfl (aj rfl rfl rfl (bd rfl rfl rfl rfl he6)) ?_
   refine dq [] [] (.iptr (ah e6) 2) rfl (an rfl rfl rfl) ?_
   refine dq [] [] (I e6.Due) rfl (aN rfl rfl) ?_
   refine dk 2 [5,4] [B true,I e6.Due] ?_
   refine de 401 rfl rfl ?_
   obtain rfl:=Option.some.inj h
   exact rP [I e6.Due,B true]
theorem Wm {G:Go.Ln.Ground}:aV Tryz.prog G 27 Ho:=gT 2 0 (aM Wl (aM Wt bF)) ci Tryz.func27 (fun a r h=>Yx a.1 a.2 r h)
noncomputable def Db:((List ac)×(List ac))→List V:=cA (fY str) (oA (fY str))
noncomputable def Dc (r:Bool):V×List V:=(B r,[])
noncomputable def uD:Ent:=bm [false,false] Db Dc fun x=>wc x.1 x.2
theorem QV {a_1:List ac}{b_2:List ac}{r}(h:wc a_1 b_2=some r):uD.F (Db (a_1,b_2))=some (Dc r):=aI (aU (ce bQ) (aJ (ce bQ))) h
noncomputable def QX:Code:=aG Tryz.f71
noncomputable def Km:Env:=b7 Tryz.prog []
noncomputable def QW (x:(List ac)×(List ac))(r:Bool):St→Prop:=QF Km Tryz.f71 [false,false] (Db x) (Dc r)
theorem ML (a_1:List ac)(b_2:List ac):cj Km 0 (QW (a_1,b_2)) (cL (cL (cR (cL (cR (cR QX)))))) 0 (sW a_1 b_2) (fun u=>(sT 26 [] [] 1)) fun x3=>(sT 26 [(0,.isl false (a_1.map str)),(1,.isl false (b_2.map str)),(5,I x3)] [] 1):=ef (yK a_1 b_2) fun {Q K} hK self ih x3 y h hr hn=>by
 unfold mQ at h
 refine cq 5 [11,12] [I x3,.isl false (a_1.map str)] 33 ?_
 refine oq 49 (I (len a_1)) rfl (bu rfl rfl rfl (bI rfl)) ?_
 refine cq 2 [14] [B (decide (x3<(len a_1)))] 65 ?_
 refine sq h ?_ ?_<;>intro h
 ·refine aq 1 ?_
  refine aq 3 ?_
  refine dK [0,0,3,7,0,0,48,112,255] rfl (by decide +kernel) ?_
  refine dk 2 [18,17] [I x3,.isl false (a_1.map str)] ?_
  obtain⟨e4,he4,h⟩:=bS h
  refine dq [] [] (.iptr (str e4) 0) rfl (aj rfl rfl rfl (bd rfl rfl rfl rfl he4)) ?_
  refine dq [] [] (str e4) rfl (aN rfl rfl) ?_
  refine dk 2 [22,21] [I x3,.isl false (b_2.map str)] ?_
  obtain⟨e5,he5,h⟩:=bS h
  refine dq [] [] (.iptr (str e5) 0) rfl (aj rfl rfl rfl (bd rfl rfl rfl rfl he5)) ?_
  refine dq [] [] (str e5) rfl (aN rfl rfl) ?_
  refine dk 1 [25] [B (!(e4==e5))] ?_
  refine de 209 rfl rfl ?_
  refine sq h ?_ ?_<;>intro h
  ·refine cq 4 [4] [B false] 225 ?_
   exact co rfl (hr _ (ak h) _ (qp [B false]))
  ·refine aq 1 ?_
   refine cq 6 [5] [I (ai (x3+1))] 257 ?_
   refine cZ ?_
   exact rf [0,1,5] [] (ih _ _ h hr hn :)
 ·refine aq 1 ?_
  exact rf [] [] (hn _ (ak h) :) (hk:=hK)
theorem U5 (a_1:List ac)(b_2:List ac)(r:Bool)(h:wc a_1 b_2=some r):bA Km Tryz.f71 [false,false] 0 (Db (a_1,b_2)) (Dc r):=by
 show Run _ _ (QW (a_1,b_2) r) [.code QX] _
 refine rI 26 [(0,.isl false (a_1.map str)),(1,.isl false (b_2.map str))] [] 1 ?_
 unfold wc at h
 refine cq 8 [6] [.isl false (a_1.map str)] 33 ?_
 refine oq 49 (I (len a_1)) rfl (bu rfl rfl rfl (bI rfl)) ?_
 refine cq 1 [8] [.isl false (b_2.map str)] 65 ?_
 refine oq 81 (I (len b_2)) rfl (bu rfl rfl rfl (bI rfl)) ?_
 refine cq 2 [10] [B ((len a_1) != (len b_2))] 97 ?_
 refine sq h ?_ ?_<;>intro h
 ·refine cq 4 [4] [B false] 113 ?_
  obtain rfl:=Option.some.inj h
  exact rP [B false]
 ·refine aq 1 ?_
  refine cq 6 [5] [I (0)] 113 ?_
  obtain⟨y6,hy6,hy61,hy62⟩:=bJ h
  refine bN rfl ?_
  refine rf [0,1,5] [] (ML a_1 b_2 rfl 0 _ hy6 (fun r' e st hq=>by rw[hy61 r' e] at hq;exact hq) fun u6 hu=>?_)
  replace h:=hy62 u6 hu
  refine cq 4 [4] [B true] 17 ?_
  obtain rfl:=Option.some.inj h
  exact rP [B true]
theorem H4 {G:Go.Ln.Ground}:aV Tryz.prog G 71 uD:=gT 2 0 bF ci Tryz.func71 (fun a r h=>U5 a.1 a.2 r h)
noncomputable def v7:(Condition×Condition)→List V:=cA bB (oA bB)
noncomputable def v8 (r:Bool):V×List V:=(B r,[])
noncomputable def rH (bp:(Condition×Condition)→Option Bool):Ent:=bm [false,false] v7 v8 bp
theorem G3 (bp:(Condition×Condition)→Option Bool){x}{r}(h:bp x=some r):(rH bp).F (v7 x)=some (v8 r):=aI (aU dt (aJ dt)) h
noncomputable def CZ:((List Condition)×(List Condition))→List V:=cA (fY aE) (oA (fY aE))
noncomputable def C0 (r:Bool):V×List V:=(B r,[])
noncomputable def AB (bp:(Condition×Condition)→Option Bool):Ent:=bm [false,false] CZ C0 fun x=>wa bp x.1 x.2
theorem ZZ (bp:(Condition×Condition)→Option Bool){a_1:List Condition}{b_2:List Condition}{r}(h:wa bp a_1 b_2=some r):(AB bp).F (CZ (a_1,b_2))=some (C0 r):=aI (aU (ce fu) (aJ (ce fu))) h
noncomputable def QD:Code:=aG Tryz.f241
noncomputable def Kj (bp:(Condition×Condition)→Option Bool):Env:=b7 Tryz.prog [(196,(rH bp))]
noncomputable def QC (bp:(Condition×Condition)→Option Bool)(x:(List Condition)×(List Condition))(r:Bool):St→Prop:=QF (Kj bp) Tryz.f241 [false,false] (CZ x) (C0 r)
theorem MI (bp:(Condition×Condition)→Option Bool)(a_1:List Condition)(b_2:List Condition):cj (Kj bp) 0 (QC bp (a_1,b_2)) (cL (cL (cR (cL (cR (cR QD)))))) 0 (qG bp a_1 b_2) (fun u=>(sT 27 [] [] 1)) fun x3=>(sT 27 [(0,.isl false (a_1.map aE)),(1,.isl false (b_2.map aE)),(5,I x3)] [] 1):=ef (yH bp a_1 b_2) fun {Q K} hK self ih x3 y h hr hn=>by
 unfold la at h
 refine cq 5 [11,12] [I x3,.isl false (a_1.map aE)] 33 ?_
 refine oq 49 (I (len a_1)) rfl (bu rfl rfl rfl (bI rfl)) ?_
 refine cq 2 [14] [B (decide (x3<(len a_1)))] 65 ?_
 refine sq h ?_ ?_<;>intro h
 ·refine aq 1 ?_
  refine aq 3 ?_
  refine dK [0,0,3,7,0,0,48,112,255,511] rfl (by decide +kernel) ?_
  refine dk 2 [18,17] [I x3,.isl false (a_1.map aE)] ?_
  obtain⟨e4,he4,h⟩:=bS h
  refine dq [] [] (.iptr (ao e4) 0) rfl (aj rfl rfl rfl (bd rfl rfl (dm e4) rfl he4)) ?_
  refine dq [] [] (ao e4) rfl (aN rfl rfl) ?_
  refine dk 2 [22,21] [I x3,.isl false (b_2.map aE)] ?_
  obtain⟨e5,he5,h⟩:=bS h
  refine dq [] [] (.iptr (ao e5) 0) rfl (aj rfl rfl rfl (bd rfl rfl (dm e5) rfl he5)) ?_
  refine dq [] [] (ao e5) rfl (aN rfl rfl) ?_
  obtain⟨r6,hr6,h⟩:=bS h
  refine dq [] [] (B r6) rfl (cm rfl rfl (cU rfl rfl rfl (bC (cg rfl) (bC (cg rfl) dM)) (G3 bp hr6) (.inr rfl) ew rfl rfl rfl)) ?_ (dU rfl rfl rfl rfl (bC (cg rfl) (bC (cg rfl) dM)) (G3 bp hr6) (.inr rfl) rfl)
  refine dk 1 [26] [B (!r6)] ?_
  refine de 225 rfl rfl ?_
  refine sq h ?_ ?_<;>intro h
  ·refine cq 4 [4] [B false] 241 ?_
   exact co rfl (hr _ (ak h) _ (qp [B false]))
  ·refine aq 1 ?_
   refine cq 6 [5] [I (ai (x3+1))] 273 ?_
   refine cZ ?_
   exact rf [0,1,5] [] (ih _ _ h hr hn :)
 ·refine aq 1 ?_
  exact rf [] [] (hn _ (ak h) :) (hk:=hK)
theorem UZ (bp:(Condition×Condition)→Option Bool)(a_1:List Condition)(b_2:List Condition)(r:Bool)(h:wa bp a_1 b_2=some r):bA (Kj bp) Tryz.f241 [false,false] 0 (CZ (a_1,b_2)) (C0 r):=by
 show Run _ _ (QC bp (a_1,b_2) r) [.code QD] _
 refine rI 27 [(0,.isl false (a_1.map aE)),(1,.isl false (b_2.map aE))] [] 1 ?_
 unfold wa at h
 refine cq 8 [6] [.isl false (a_1.map aE)] 33 ?_
 refine oq 49 (I (len a_1)) rfl (bu rfl rfl rfl (bI rfl)) ?_
 refine cq 1 [8] [.isl false (b_2.map aE)] 65 ?_
 refine oq 81 (I (len b_2)) rfl (bu rfl rfl rfl (bI rfl)) ?_
 refine cq 2 [10] [B ((len a_1) != (len b_2))] 97 ?_
 refine sq h ?_ ?_<;>intro h
 ·refine cq 4 [4] [B false] 113 ?_
  obtain rfl:=Option.some.inj h
  exact rP [B false]
 ·refine aq 1 ?_
  refine cq 6 [5] [I (0)] 113 ?_
  obtain⟨y7,hy7,hy71,hy72⟩:=bJ h
  refine bN rfl ?_
  refine rf [0,1,5] [] (MI bp a_1 b_2 rfl 0 _ hy7 (fun r' e st hq=>by rw[hy71 r' e] at hq;exact hq) fun u7 hu=>?_)
  replace h:=hy72 u7 hu
  refine cq 4 [4] [B true] 17 ?_
  obtain rfl:=Option.some.inj h
  exact rP [B true]
theorem QE {G:Go.Ln.Ground}(bp:(Condition×Condition)→Option Bool)(LS:aV Tryz.prog G 196 (rH bp)):aV Tryz.prog G 241 (AB bp):=gT 2 0 (aM LS bF) ci Tryz.func241 (fun a r h=>UZ bp a.1 a.2 r h)
noncomputable def Az:Ent:=rH (aK pE)
theorem ZW {a_1:Condition}{b_2:Condition}{r}(h:Ay a_1 b_2=some r):Az.F (v7 (a_1,b_2))=some (v8 r):=G3 (aK pE) h
noncomputable def ZY:Code:=aG Tryz.f196
noncomputable def QA (bp:(Condition×Condition)→Option Bool):Env:=b7 Tryz.prog [(241,(AB bp))]
noncomputable def ZX (bp:(Condition×Condition)→Option Bool)(x:Condition×Condition)(r:Bool):St→Prop:=QF (QA bp) Tryz.f196 [false,false] (v7 x) (v8 r)
theorem UY (bp:(Condition×Condition)→Option Bool)(a_1:Condition)(b_2:Condition)(r:Bool)(h:sS bp a_1 b_2=some r):bA (QA bp) Tryz.f196 [false,false] 0 (v7 (a_1,b_2)) (v8 r):=by
 show Run _ _ (ZX bp (a_1,b_2) r) [.code ZY] _
 refine rI 26 [(0,ao a_1),(1,ao b_2)] [] 1 ?_
 unfold sS at h
 refine ck 15 [2,3,9] [] [1,17] [] [.hp 1 0 [] 4 0 0,.hp 17 0 [] 4 0 0,B (a_1.Op != b_2.Op)] [some ⟨0,4,[ao a_1]⟩,some ⟨0,4,[ao b_2]⟩] 129 (by kernel_rfl) ?_
 refine sq h ?_ ?_<;>intro h
 ·refine cq 4 [4] [B false] 145 ?_
  obtain rfl:=Option.some.inj h
  exact rP [B false]
 ·refine aq 1 ?_
  refine cq 9 [14] [B (!(a_1.Name==b_2.Name))] 209 ?_
  refine sq h ?_ ?_<;>intro h
  ·refine cq 4 [4] [B false] 225 ?_
   obtain rfl:=Option.some.inj h
   exact rP [B false]
  ·refine aq 1 ?_
   refine cq 9 [19] [B (a_1.Day != b_2.Day)] 289 ?_
   refine sq h ?_ ?_<;>intro h
   ·refine cq 4 [4] [B false] 305 ?_
    obtain rfl:=Option.some.inj h
    exact rP [B false]
   ·refine aq 1 ?_
    refine cq 7 [21,23] [.isl false (a_1.Parts.map aE),.isl false (b_2.Parts.map aE)] 353 ?_
    obtain⟨r3,hr3,h⟩:=bS h
    refine oq 369 (B r3) rfl (cm rfl rfl (cU rfl rfl rfl (bC (cg rfl) (bC (cg rfl) dM)) (ZZ bp hr3) (.inr rfl) ew rfl rfl rfl)) ?_
    refine cq 2 [25] [B (!r3)] 385 ?_
    refine sq h ?_ ?_<;>intro h
    ·refine cq 4 [4] [B false] 401 ?_
     obtain rfl:=Option.some.inj h
     exact rP [B false]
    ·refine aq 1 ?_
     refine cq 4 [4] [B true] 401 ?_
     obtain rfl:=Option.some.inj h
     exact rP [B true]
theorem QB {G:Go.Ln.Ground}:aV Tryz.prog G 196 Az:=km fun bp LS=>gT 2 0 (aM (QE bp LS) bF) ci Tryz.func196 (fun a r h=>UY bp a.1 a.2 r h)
noncomputable def CV:(Clause×Clause)→List V:=cA au (oA au)
noncomputable def CW (r:Bool):V×List V:=(B r,[])
noncomputable def Au:Ent:=bm [false,false] CV CW fun x=>v6 x.1 x.2
theorem Qv {a_1:Clause}{b_2:Clause}{r}(h:v6 a_1 b_2=some r):Au.F (CV (a_1,b_2))=some (CW r):=aI (aU dB (aJ dB)) h
noncomputable def ZU:Code:=aG Tryz.f140
noncomputable def Qu:Env:=b7 Tryz.prog [(196,Az)]
noncomputable def ZT (x:Clause×Clause)(r:Bool):St→Prop:=QF Qu Tryz.f140 [false,false] (CV x) (CW r)
theorem UV (a_1:Clause)(b_2:Clause)(r:Bool)(h:v6 a_1 b_2=some r):bA Qu Tryz.f140 [false,false] 0 (CV (a_1,b_2)) (CW r):=by
 show Run _ _ (ZT (a_1,b_2) r) [.code ZU] _
 refine rI 51 [(0,az a_1),(1,az b_2)] [] 1 ?_
 unfold v6 at h
 refine ck 15 [2,3,9] [] [1,17] [] [.hp 1 0 [] 12 0 0,.hp 17 0 [] 12 0 0,B (!(a_1.Id==b_2.Id))] [some ⟨0,12,[az a_1]⟩,some ⟨0,12,[az b_2]⟩] 129 (by kernel_rfl) ?_
 refine sq h ?_ ?_<;>intro h
 ·refine cq 4 [4] [B false] 145 ?_
  obtain rfl:=Option.some.inj h
  exact rP [B false]
 ·refine aq 1 ?_
  refine cq 9 [14] [B (a_1.Kind != b_2.Kind)] 209 ?_
  refine sq h ?_ ?_<;>intro h
  ·refine cq 4 [4] [B false] 225 ?_
   obtain rfl:=Option.some.inj h
   exact rP [B false]
  ·refine aq 1 ?_
   refine cq 9 [19] [B (a_1.Party != b_2.Party)] 289 ?_
   refine sq h ?_ ?_<;>intro h
   ·refine cq 4 [4] [B false] 305 ?_
    obtain rfl:=Option.some.inj h
    exact rP [B false]
   ·refine aq 1 ?_
    refine cq 9 [24] [B (!(a_1.Action==b_2.Action))] 369 ?_
    refine sq h ?_ ?_<;>intro h
    ·refine cq 4 [4] [B false] 385 ?_
     obtain rfl:=Option.some.inj h
     exact rP [B false]
    ·refine aq 1 ?_
     refine cq 9 [29] [B (a_1.Other != b_2.Other)] 449 ?_
     refine sq h ?_ ?_<;>intro h
     ·refine cq 4 [4] [B false] 465 ?_
      obtain rfl:=Option.some.inj h
      exact rP [B false]
     ·refine aq 1 ?_
      refine cq 9 [34] [B (a_1.Amount != b_2.Amount)] 529 ?_
      refine sq h ?_ ?_<;>intro h
      ·refine cq 4 [4] [B false] 545 ?_
       obtain rfl:=Option.some.inj h
       exact rP [B false]
      ·refine aq 1 ?_
       refine cq 7 [36,38] [ao a_1.When,ao b_2.When] 593 ?_
       obtain⟨r3,hr3,h⟩:=bS h
       refine oq 609 (B r3) rfl (cP (ZW hr3)) ?_
       refine cq 2 [40] [B (!r3)] 625 ?_
       refine sq h ?_ ?_<;>intro h
       ·refine cq 4 [4] [B false] 641 ?_
        obtain rfl:=Option.some.inj h
        exact rP [B false]
       ·refine aq 1 ?_
        refine cq 9 [45] [B (a_1.Within != b_2.Within)] 705 ?_
        refine sq h ?_ ?_<;>intro h
        ·refine cq 4 [4] [B false] 721 ?_
         obtain rfl:=Option.some.inj h
         exact rP [B false]
        ·refine aq 1 ?_
         refine cq 9 [50] [B (!(a_1.Repair==b_2.Repair))] 785 ?_
         refine sq h ?_ ?_<;>intro h
         ·refine cq 4 [4] [B false] 801 ?_
          obtain rfl:=Option.some.inj h
          exact rP [B false]
         ·refine aq 1 ?_
          refine cq 4 [4] [B true] 801 ?_
          obtain rfl:=Option.some.inj h
          exact rP [B true]
theorem Qw {G:Go.Ln.Ground}:aV Tryz.prog G 140 Au:=gT 2 0 (aM QB bF) ci Tryz.func140 (fun a r h=>UV a.1 a.2 r h)
noncomputable def CX:((List Clause)×(List Clause))→List V:=cA (fY au) (oA (fY au))
noncomputable def CY (r:Bool):V×List V:=(B r,[])
noncomputable def Aw:Ent:=bm [false,false] CX CY fun x=>Av x.1 x.2
theorem ZV {a_1:List Clause}{b_2:List Clause}{r}(h:Av a_1 b_2=some r):Aw.F (CX (a_1,b_2))=some (CY r):=aI (aU (ce dB) (aJ (ce dB))) h
noncomputable def Qy:Code:=aG Tryz.f73
noncomputable def Ki:Env:=b7 Tryz.prog [(140,Au)]
noncomputable def Qx (x:(List Clause)×(List Clause))(r:Bool):St→Prop:=QF Ki Tryz.f73 [false,false] (CX x) (CY r)
theorem MH (a_1:List Clause)(b_2:List Clause):cj Ki 0 (Qx (a_1,b_2)) (cL (cL (cR (cL (cR (cR Qy)))))) 0 (sR a_1 b_2) (fun u=>(sT 27 [] [] 1)) fun x3=>(sT 27 [(0,.isl false (a_1.map au)),(1,.isl false (b_2.map au)),(5,I x3)] [] 1):=ef (yG a_1 b_2) fun {Q K} hK self ih x3 y h hr hn=>by
 unfold mN at h
 refine cq 5 [11,12] [I x3,.isl false (a_1.map au)] 33 ?_
 refine oq 49 (I (len a_1)) rfl (bu rfl rfl rfl (bI rfl)) ?_
 refine cq 2 [14] [B (decide (x3<(len a_1)))] 65 ?_
 refine sq h ?_ ?_<;>intro h
 ·refine aq 1 ?_
  refine aq 3 ?_
  refine dK [0,0,3,7,0,0,48,112,255,511] rfl (by decide +kernel) ?_
  refine dk 2 [18,17] [I x3,.isl false (a_1.map au)] ?_
  obtain⟨e4,he4,h⟩:=bS h
  refine dq [] [] (.iptr (az e4) 0) rfl (aj rfl rfl rfl (bd rfl rfl rfl rfl he4)) ?_
  refine dq [] [] (az e4) rfl (aN rfl rfl) ?_
  refine dk 2 [22,21] [I x3,.isl false (b_2.map au)] ?_
  obtain⟨e5,he5,h⟩:=bS h
  refine dq [] [] (.iptr (az e5) 0) rfl (aj rfl rfl rfl (bd rfl rfl rfl rfl he5)) ?_
  refine dq [] [] (az e5) rfl (aN rfl rfl) ?_
  obtain⟨r6,hr6,h⟩:=bS h
  refine dq [] [] (B r6) rfl (cP (Qv hr6)) ?_ (dU rfl rfl rfl rfl (bC (cg rfl) (bC (cg rfl) dM)) (Qv hr6) (.inr rfl) rfl)
  refine dk 1 [26] [B (!r6)] ?_
  refine de 225 rfl rfl ?_
  refine sq h ?_ ?_<;>intro h
  ·refine cq 4 [4] [B false] 241 ?_
   exact co rfl (hr _ (ak h) _ (qp [B false]))
  ·refine aq 1 ?_
   refine cq 6 [5] [I (ai (x3+1))] 273 ?_
   refine cZ ?_
   exact rf [0,1,5] [] (ih _ _ h hr hn :)
 ·refine aq 1 ?_
  exact rf [] [] (hn _ (ak h) :) (hk:=hK)
theorem UW (a_1:List Clause)(b_2:List Clause)(r:Bool)(h:Av a_1 b_2=some r):bA Ki Tryz.f73 [false,false] 0 (CX (a_1,b_2)) (CY r):=by
 show Run _ _ (Qx (a_1,b_2) r) [.code Qy] _
 refine rI 27 [(0,.isl false (a_1.map au)),(1,.isl false (b_2.map au))] [] 1 ?_
 unfold Av at h
 refine cq 8 [6] [.isl false (a_1.map au)] 33 ?_
 refine oq 49 (I (len a_1)) rfl (bu rfl rfl rfl (bI rfl)) ?_
 refine cq 1 [8] [.isl false (b_2.map au)] 65 ?_
 refine oq 81 (I (len b_2)) rfl (bu rfl rfl rfl (bI rfl)) ?_
 refine cq 2 [10] [B ((len a_1) != (len b_2))] 97 ?_
 refine sq h ?_ ?_<;>intro h
 ·refine cq 4 [4] [B false] 113 ?_
  obtain rfl:=Option.some.inj h
  exact rP [B false]
 ·refine aq 1 ?_
  refine cq 6 [5] [I (0)] 113 ?_
  obtain⟨y7,hy7,hy71,hy72⟩:=bJ h
  refine bN rfl ?_
  refine rf [0,1,5] [] (MH a_1 b_2 rfl 0 _ hy7 (fun r' e st hq=>by rw[hy71 r' e] at hq;exact hq) fun u7 hu=>?_)
  replace h:=hy72 u7 hu
  refine cq 4 [4] [B true] 17 ?_
  obtain rfl:=Option.some.inj h
  exact rP [B true]
theorem Qz {G:Go.Ln.Ground}:aV Tryz.prog G 73 Aw:=gT 2 0 (aM Qw bF) ci Tryz.func73 (fun a r h=>UW a.1 a.2 r h)
noncomputable def C1:(Contract×Contract)→List V:=cA aX (oA aX)
noncomputable def C2 (r:Bool):V×List V:=(B r,[])
noncomputable def AD:Ent:=bm [false,false] C1 C2 fun x=>AC x.1 x.2
theorem QH {a_1:Contract}{b_2:Contract}{r}(h:AC a_1 b_2=some r):AD.F (C1 (a_1,b_2))=some (C2 r):=aI (aU bn (aJ bn)) h
noncomputable def Z1:Code:=aG Tryz.f20
noncomputable def QG:Env:=b7 Tryz.prog [(71,uD),(73,Aw)]
noncomputable def Z0 (x:Contract×Contract)(r:Bool):St→Prop:=QF QG Tryz.f20 [false,false] (C1 x) (C2 r)
theorem U0 (a_1:Contract)(b_2:Contract)(r:Bool)(h:AC a_1 b_2=some r):bA QG Tryz.f20 [false,false] 0 (C1 (a_1,b_2)) (C2 r):=by
 show Run _ _ (Z0 (a_1,b_2) r) [.code Z1] _
 refine rI 17 [(0,aa a_1),(1,aa b_2)] [] 1 ?_
 unfold AC at h
 refine ck 13 [2,3,6,8] [] [1,17] [] [.hp 1 0 [] 2 0 0,.hp 17 0 [] 2 0 0,.isl false (a_1.Parties.map str),.isl false (b_2.Parties.map str)] [some ⟨0,2,[aa a_1]⟩,some ⟨0,2,[aa b_2]⟩] 113 (by kernel_rfl) ?_
 obtain⟨r3,hr3,h⟩:=bS h
 refine oq 129 (B r3) rfl (cP (QV hr3)) ?_
 refine cq 2 [10] [B (!r3)] 145 ?_
 refine sq h ?_ ?_<;>intro h
 ·refine cq 4 [4] [B false] 161 ?_
  obtain rfl:=Option.some.inj h
  exact rP [B false]
 ·refine aq 1 ?_
  refine cq 7 [12,14] [.isl false (a_1.Clauses.map au),.isl false (b_2.Clauses.map au)] 209 ?_
  obtain⟨r4,hr4,h⟩:=bS h
  refine oq 225 (B r4) rfl (cP (ZV hr4)) ?_
  refine cq 2 [16] [B (!r4)] 241 ?_
  refine sq h ?_ ?_<;>intro h
  ·refine cq 4 [4] [B false] 257 ?_
   obtain rfl:=Option.some.inj h
   exact rP [B false]
  ·refine aq 1 ?_
   refine cq 4 [4] [B true] 257 ?_
   obtain rfl:=Option.some.inj h
   exact rP [B true]
theorem QI {G:Go.Ln.Ground}:aV Tryz.prog G 20 AD:=gT 2 0 (aM H4 (aM Qz bF)) ci Tryz.func20 (fun a r h=>U0 a.1 a.2 r h)
noncomputable def C3:(Duty×Duty)→List V:=cA ah (oA ah)
noncomputable def C4 (r:Bool):V×List V:=(B r,[])
noncomputable def AE:Ent:=bm [false,false] C3 C4 fun x=>wb x.1 x.2
theorem QK {a_1:Duty}{b_2:Duty}{r}(h:wb a_1 b_2=some r):AE.F (C3 (a_1,b_2))=some (C4 r):=aI (aU eh (aJ eh)) h
noncomputable def Z3:Code:=aG Tryz.f139
noncomputable def QJ:Env:=b7 Tryz.prog []
noncomputable def Z2 (x:Duty×Duty)(r:Bool):St→Prop:=QF QJ Tryz.f139 [false,false] (C3 x) (C4 r)
theorem U1 (a_1:Duty)(b_2:Duty)(r:Bool)(h:wb a_1 b_2=some r):bA QJ Tryz.f139 [false,false] 0 (C3 (a_1,b_2)) (C4 r):=by
 show Run _ _ (Z2 (a_1,b_2) r) [.code Z3] _
 refine rI 25 [(0,ah a_1),(1,ah b_2)] [] 1 ?_
 unfold wb at h
 refine ck 15 [2,3,9] [] [1,17] [] [.hp 1 0 [] 4 0 0,.hp 17 0 [] 4 0 0,B (a_1.Clause != b_2.Clause)] [some ⟨0,4,[ah a_1]⟩,some ⟨0,4,[ah b_2]⟩] 129 (by kernel_rfl) ?_
 refine sq h ?_ ?_<;>intro h
 ·refine cq 4 [4] [B false] 145 ?_
  obtain rfl:=Option.some.inj h
  exact rP [B false]
 ·refine aq 1 ?_
  refine cq 9 [14] [B (a_1.Since != b_2.Since)] 209 ?_
  refine sq h ?_ ?_<;>intro h
  ·refine cq 4 [4] [B false] 225 ?_
   obtain rfl:=Option.some.inj h
   exact rP [B false]
  ·refine aq 1 ?_
   refine cq 9 [19] [B (a_1.Due != b_2.Due)] 289 ?_
   refine sq h ?_ ?_<;>intro h
   ·refine cq 4 [4] [B false] 305 ?_
    obtain rfl:=Option.some.inj h
    exact rP [B false]
   ·refine aq 1 ?_
    refine cq 9 [24] [B (a_1.Status != b_2.Status)] 369 ?_
    refine sq h ?_ ?_<;>intro h
    ·refine cq 4 [4] [B false] 385 ?_
     obtain rfl:=Option.some.inj h
     exact rP [B false]
    ·refine aq 1 ?_
     refine cq 4 [4] [B true] 385 ?_
     obtain rfl:=Option.some.inj h
     exact rP [B true]
theorem QL {G:Go.Ln.Ground}:aV Tryz.prog G 139 AE:=gT 2 0 bF ci Tryz.func139 (fun a r h=>U1 a.1 a.2 r h)
noncomputable def C5:((List Duty)×(List Duty))→List V:=cA (fY ah) (oA (fY ah))
noncomputable def C6 (r:Bool):V×List V:=(B r,[])
noncomputable def AG:Ent:=bm [false,false] C5 C6 fun x=>AF x.1 x.2
theorem Z4 {a_1:List Duty}{b_2:List Duty}{r}(h:AF a_1 b_2=some r):AG.F (C5 (a_1,b_2))=some (C6 r):=aI (aU (ce eh) (aJ (ce eh))) h
noncomputable def QN:Code:=aG Tryz.f72
noncomputable def Kk:Env:=b7 Tryz.prog [(139,AE)]
noncomputable def QM (x:(List Duty)×(List Duty))(r:Bool):St→Prop:=QF Kk Tryz.f72 [false,false] (C5 x) (C6 r)
theorem MJ (a_1:List Duty)(b_2:List Duty):cj Kk 0 (QM (a_1,b_2)) (cL (cL (cR (cL (cR (cR QN)))))) 0 (sU a_1 b_2) (fun u=>(sT 27 [] [] 1)) fun x3=>(sT 27 [(0,.isl false (a_1.map ah)),(1,.isl false (b_2.map ah)),(5,I x3)] [] 1):=ef (yI a_1 b_2) fun {Q K} hK self ih x3 y h hr hn=>by
 unfold mO at h
 refine cq 5 [11,12] [I x3,.isl false (a_1.map ah)] 33 ?_
 refine oq 49 (I (len a_1)) rfl (bu rfl rfl rfl (bI rfl)) ?_
 refine cq 2 [14] [B (decide (x3<(len a_1)))] 65 ?_
 refine sq h ?_ ?_<;>intro h
 ·refine aq 1 ?_
  refine aq 3 ?_
  refine dK [0,0,3,7,0,0,48,112,255,511] rfl (by decide +kernel) ?_
  refine dk 2 [18,17] [I x3,.isl false (a_1.map ah)] ?_
  obtain⟨e4,he4,h⟩:=bS h
  refine dq [] [] (.iptr (ah e4) 0) rfl (aj rfl rfl rfl (bd rfl rfl rfl rfl he4)) ?_
  refine dq [] [] (ah e4) rfl (aN rfl rfl) ?_
  refine dk 2 [22,21] [I x3,.isl false (b_2.map ah)] ?_
  obtain⟨e5,he5,h⟩:=bS h
  refine dq [] [] (.iptr (ah e5) 0) rfl (aj rfl rfl rfl (bd rfl rfl rfl rfl he5)) ?_
  refine dq [] [] (ah e5) rfl (aN rfl rfl) ?_
  obtain⟨r6,hr6,h⟩:=bS h
  refine dq [] [] (B r6) rfl (cP (QK hr6)) ?_ (dU rfl rfl rfl rfl (bC (cg rfl) (bC (cg rfl) dM)) (QK hr6) (.inr rfl) rfl)
  refine dk 1 [26] [B (!r6)] ?_
  refine de 225 rfl rfl ?_
  refine sq h ?_ ?_<;>intro h
  ·refine cq 4 [4] [B false] 241 ?_
   exact co rfl (hr _ (ak h) _ (qp [B false]))
  ·refine aq 1 ?_
   refine cq 6 [5] [I (ai (x3+1))] 273 ?_
   refine cZ ?_
   exact rf [0,1,5] [] (ih _ _ h hr hn :)
 ·refine aq 1 ?_
  exact rf [] [] (hn _ (ak h) :) (hk:=hK)
theorem U2 (a_1:List Duty)(b_2:List Duty)(r:Bool)(h:AF a_1 b_2=some r):bA Kk Tryz.f72 [false,false] 0 (C5 (a_1,b_2)) (C6 r):=by
 show Run _ _ (QM (a_1,b_2) r) [.code QN] _
 refine rI 27 [(0,.isl false (a_1.map ah)),(1,.isl false (b_2.map ah))] [] 1 ?_
 unfold AF at h
 refine cq 8 [6] [.isl false (a_1.map ah)] 33 ?_
 refine oq 49 (I (len a_1)) rfl (bu rfl rfl rfl (bI rfl)) ?_
 refine cq 1 [8] [.isl false (b_2.map ah)] 65 ?_
 refine oq 81 (I (len b_2)) rfl (bu rfl rfl rfl (bI rfl)) ?_
 refine cq 2 [10] [B ((len a_1) != (len b_2))] 97 ?_
 refine sq h ?_ ?_<;>intro h
 ·refine cq 4 [4] [B false] 113 ?_
  obtain rfl:=Option.some.inj h
  exact rP [B false]
 ·refine aq 1 ?_
  refine cq 6 [5] [I (0)] 113 ?_
  obtain⟨y7,hy7,hy71,hy72⟩:=bJ h
  refine bN rfl ?_
  refine rf [0,1,5] [] (MJ a_1 b_2 rfl 0 _ hy7 (fun r' e st hq=>by rw[hy71 r' e] at hq;exact hq) fun u7 hu=>?_)
  replace h:=hy72 u7 hu
  refine cq 4 [4] [B true] 17 ?_
  obtain rfl:=Option.some.inj h
  exact rP [B true]
theorem QO {G:Go.Ln.Ground}:aV Tryz.prog G 72 AG:=gT 2 0 (aM QL bF) ci Tryz.func72 (fun a r h=>U2 a.1 a.2 r h)
noncomputable def C7:((List Int)×(List Int))→List V:=cA (fY I) (oA (fY I))
noncomputable def C8 (r:Bool):V×List V:=(B r,[])
noncomputable def AI:Ent:=bm [false,false] C7 C8 fun x=>AH x.1 x.2
theorem Z5 {a_1:List Int}{b_2:List Int}{r}(h:AH a_1 b_2=some r):AI.F (C7 (a_1,b_2))=some (C8 r):=aI (aU (ce bG) (aJ (ce bG))) h
noncomputable def QQ:Code:=aG Tryz.f32
noncomputable def Kl:Env:=b7 Tryz.prog []
noncomputable def QP (x:(List Int)×(List Int))(r:Bool):St→Prop:=QF Kl Tryz.f32 [false,false] (C7 x) (C8 r)
theorem MK (a_1:List Int)(b_2:List Int):cj Kl 0 (QP (a_1,b_2)) (cL (cL (cR (cL (cR (cR QQ)))))) 0 (sV a_1 b_2) (fun u=>(sT 26 [] [] 1)) fun x3=>(sT 26 [(0,.isl false (a_1.map I)),(1,.isl false (b_2.map I)),(5,I x3)] [] 1):=ef (yJ a_1 b_2) fun {Q K} hK self ih x3 y h hr hn=>by
 unfold mP at h
 refine cq 5 [11,12] [I x3,.isl false (a_1.map I)] 33 ?_
 refine oq 49 (I (len a_1)) rfl (bu rfl rfl rfl (bI rfl)) ?_
 refine cq 2 [14] [B (decide (x3<(len a_1)))] 65 ?_
 refine sq h ?_ ?_<;>intro h
 ·refine aq 1 ?_
  refine aq 3 ?_
  refine dK [0,0,3,7,0,0,48,112,255] rfl (by decide +kernel) ?_
  refine dk 2 [18,17] [I x3,.isl false (a_1.map I)] ?_
  obtain⟨e4,he4,h⟩:=bS h
  refine dq [] [] (.iptr (I e4) 0) rfl (aj rfl rfl rfl (bd rfl rfl rfl rfl he4)) ?_
  refine dq [] [] (I e4) rfl (aN rfl rfl) ?_
  refine dk 2 [22,21] [I x3,.isl false (b_2.map I)] ?_
  obtain⟨e5,he5,h⟩:=bS h
  refine dq [] [] (.iptr (I e5) 0) rfl (aj rfl rfl rfl (bd rfl rfl rfl rfl he5)) ?_
  refine dq [] [] (I e5) rfl (aN rfl rfl) ?_
  refine dk 1 [25] [B (e4 != e5)] ?_
  refine de 209 rfl rfl ?_
  refine sq h ?_ ?_<;>intro h
  ·refine cq 4 [4] [B false] 225 ?_
   exact co rfl (hr _ (ak h) _ (qp [B false]))
  ·refine aq 1 ?_
   refine cq 6 [5] [I (ai (x3+1))] 257 ?_
   refine cZ ?_
   exact rf [0,1,5] [] (ih _ _ h hr hn :)
 ·refine aq 1 ?_
  exact rf [] [] (hn _ (ak h) :) (hk:=hK)
theorem U3 (a_1:List Int)(b_2:List Int)(r:Bool)(h:AH a_1 b_2=some r):bA Kl Tryz.f32 [false,false] 0 (C7 (a_1,b_2)) (C8 r):=by
 show Run _ _ (QP (a_1,b_2) r) [.code QQ] _
 refine rI 26 [(0,.isl false (a_1.map I)),(1,.isl false (b_2.map I))] [] 1 ?_
 unfold AH at h
 refine cq 8 [6] [.isl false (a_1.map I)] 33 ?_
 refine oq 49 (I (len a_1)) rfl (bu rfl rfl rfl (bI rfl)) ?_
 refine cq 1 [8] [.isl false (b_2.map I)] 65 ?_
 refine oq 81 (I (len b_2)) rfl (bu rfl rfl rfl (bI rfl)) ?_
 refine cq 2 [10] [B ((len a_1) != (len b_2))] 97 ?_
 refine sq h ?_ ?_<;>intro h
 ·refine cq 4 [4] [B false] 113 ?_
  obtain rfl:=Option.some.inj h
  exact rP [B false]
 ·refine aq 1 ?_
  refine cq 6 [5] [I (0)] 113 ?_
  obtain⟨y6,hy6,hy61,hy62⟩:=bJ h
  refine bN rfl ?_
  refine rf [0,1,5] [] (MK a_1 b_2 rfl 0 _ hy6 (fun r' e st hq=>by rw[hy61 r' e] at hq;exact hq) fun u6 hu=>?_)
  replace h:=hy62 u6 hu
  refine cq 4 [4] [B true] 17 ?_
  obtain rfl:=Option.some.inj h
  exact rP [B true]
theorem QR {G:Go.Ln.Ground}:aV Tryz.prog G 32 AI:=gT 2 0 bF ci Tryz.func32 (fun a r h=>U3 a.1 a.2 r h)
noncomputable def C9:(State×State)→List V:=cA bK (oA bK)
noncomputable def Da (r:Bool):V×List V:=(B r,[])
noncomputable def AK:Ent:=bm [false,false] C9 Da fun x=>AJ x.1 x.2
theorem QT {a_1:State}{b_2:State}{r}(h:AJ a_1 b_2=some r):AK.F (C9 (a_1,b_2))=some (Da r):=aI (aU cd (aJ cd)) h
noncomputable def Z7:Code:=aG Tryz.f19
noncomputable def QS:Env:=b7 Tryz.prog [(71,uD),(72,AG),(32,AI)]
noncomputable def Z6 (x:State×State)(r:Bool):St→Prop:=QF QS Tryz.f19 [false,false] (C9 x) (Da r)
theorem U4 (a_1:State)(b_2:State)(r:Bool)(h:AJ a_1 b_2=some r):bA QS Tryz.f19 [false,false] 0 (C9 (a_1,b_2)) (Da r):=by
 show Run _ _ (Z6 (a_1,b_2) r) [.code Z7] _
 refine rI 33 [(0,ae a_1),(1,ae b_2)] [] 1 ?_
 unfold AJ at h
 refine ck 15 [2,3,9] [] [1,17] [] [.hp 1 0 [] 5 0 0,.hp 17 0 [] 5 0 0,B (a_1.Day != b_2.Day)] [some ⟨0,5,[ae a_1]⟩,some ⟨0,5,[ae b_2]⟩] 129 (by kernel_rfl) ?_
 refine sq h ?_ ?_<;>intro h
 ·refine cq 4 [4] [B false] 145 ?_
  obtain rfl:=Option.some.inj h
  exact rP [B false]
 ·refine aq 1 ?_
  refine cq 7 [11,13] [.isl false (a_1.Facts.map str),.isl false (b_2.Facts.map str)] 193 ?_
  obtain⟨r3,hr3,h⟩:=bS h
  refine oq 209 (B r3) rfl (cP (QV hr3)) ?_
  refine cq 2 [15] [B (!r3)] 225 ?_
  refine sq h ?_ ?_<;>intro h
  ·refine cq 4 [4] [B false] 241 ?_
   obtain rfl:=Option.some.inj h
   exact rP [B false]
  ·refine aq 1 ?_
   refine cq 7 [17,19] [.isl false (a_1.Duties.map ah),.isl false (b_2.Duties.map ah)] 289 ?_
   obtain⟨r4,hr4,h⟩:=bS h
   refine oq 305 (B r4) rfl (cP (Z4 hr4)) ?_
   refine cq 2 [21] [B (!r4)] 321 ?_
   refine sq h ?_ ?_<;>intro h
   ·refine cq 4 [4] [B false] 337 ?_
    obtain rfl:=Option.some.inj h
    exact rP [B false]
   ·refine aq 1 ?_
    refine cq 7 [23,25] [.isl false (a_1.Balances.map I),.isl false (b_2.Balances.map I)] 385 ?_
    obtain⟨r5,hr5,h⟩:=bS h
    refine oq 401 (B r5) rfl (cP (Z5 hr5)) ?_
    refine cq 2 [27] [B (!r5)] 417 ?_
    refine sq h ?_ ?_<;>intro h
    ·refine cq 4 [4] [B false] 433 ?_
     obtain rfl:=Option.some.inj h
     exact rP [B false]
    ·refine aq 1 ?_
     refine cq 9 [32] [B (!(a_1.Over==b_2.Over))] 497 ?_
     refine sq h ?_ ?_<;>intro h
     ·refine cq 4 [4] [B false] 513 ?_
      obtain rfl:=Option.some.inj h
      exact rP [B false]
     ·refine aq 1 ?_
      refine cq 4 [4] [B true] 513 ?_
      obtain rfl:=Option.some.inj h
      exact rP [B true]
theorem QU {G:Go.Ln.Ground}:aV Tryz.prog G 19 AK:=gT 2 0 (aM H4 (aM QO (aM QR bF))) ci Tryz.func19 (fun a r h=>U4 a.1 a.2 r h)
noncomputable def fK:(Contract×State)→List V:=cA aX (oA bK)
noncomputable def fM (r:Bool):V×List V:=(B r,[])
noncomputable def gH:Ent:=bm [false,false] fK fM fun x=>eQ x.1 x.2
theorem qf {kd:Contract}{ke:State}{r}(h:eQ kd ke=some r):gH.F (fK (kd,ke))=some (fM r):=aI (aU bn (aJ cd)) h
noncomputable def fN:Code:=aG Tryz.f4
noncomputable def ig:Env:=b7 Tryz.prog [(15,AR),(24,AZ),(17,Bb),(26,Bh),(25,BE),(27,Ho),(20,AD),(19,AK)]
noncomputable def kB (x:Contract×State)(r:Bool):St→Prop:=QF ig Tryz.f4 [false,false] (fK x) (fM r)
theorem pd (kd:Contract)(ke:State)(r:Bool)(h:eQ kd ke=some r):bA ig Tryz.f4 [false,false] 0 (fK (kd,ke)) (fM r):=by
 show Run _ _ (kB (kd,ke) r) [.code fN] _
 refine rI 58 [(0,aX kd),(1,bK ke)] [] 1 ?_
 unfold eQ at h
 refine ck 14 [2,3,12,13] [] [1,17] [] [.hp 1 0 [] 2 0 0,.hp 17 0 [] 5 0 0,aX kd,I (1048576)] [some ⟨0,2,[aX kd]⟩,some ⟨0,5,[bK ke]⟩] 97 (by kernel_rfl) ?_
 obtain⟨r3,hr3,h⟩:=bS h
 refine oq 113 (I r3) rfl (cP (aag hr3)) ?_
 refine cq 8 [5,16] [I r3,B (decide (r3<0))] 161 ?_
 refine sq h ?_ ?_<;>intro h
 ·refine cq 4 [4] [B true] 177 ?_
  obtain rfl:=Option.some.inj h
  exact rP [B true]
 ·refine aq 1 ?_
  refine cq 4 [17,18] [bK ke,I r3] 193 ?_
  obtain⟨r4,hr4,h⟩:=bS h
  refine oq 209 (I r4) rfl (cP (aap hr4)) ?_
  refine ck 8 [21] [5] [] [] [B (decide (r4<0))] [] 257 (by kernel_rfl) ?_
  refine sq h ?_ ?_<;>intro h
  ·refine cq 4 [4] [B true] 273 ?_
   obtain rfl:=Option.some.inj h
   exact rP [B true]
  ·refine aq 1 ?_
   refine aq 1 ?_
   refine dK [0,1,0,7,15,31,63,63,127,511] rfl (by decide +kernel) ?_
   refine dq [1] [] (aX kd) rfl (aN rfl rfl) ?_
   obtain⟨r5,hr5,h⟩:=bS h
   refine dq [] [] (.agg [.hs 273 0 [] 1 0 (r5.Parties.map str).length,.hs 274 0 [] 12 0 (r5.Clauses.map ba).length]) rfl (cP (wo hr5)) ?_ (dU rfl rfl rfl rfl (bC (cg rfl) dM) (wo hr5) (.inr rfl) rfl)
   refine dq [17] [] (bK ke) rfl (aN rfl rfl) ?_
   obtain⟨r6,hr6,h⟩:=bS h
   refine dq [] [] (.agg [I r6.Day,.hs 305 0 [] 1 0 (r6.Facts.map str).length,.hs 306 0 [] 4 0 (r6.Duties.map ah).length,.hs 307 0 [] 1 0 (r6.Balances.map I).length,B r6.Over]) rfl (cP (wr hr6)) ?_ (dU rfl rfl rfl rfl (bC (cg rfl) dM) (wr hr6) (.inr rfl) rfl)
   obtain⟨r7,hr7,h⟩:=bS h
   refine dq [273,274,305,306,307] [] (.tup [I r7.1,B r7.2]) rfl (cm rfl rfl (cU rfl rfl rfl (bC (rA (dX (fy (f:=str) (g:=str) (xs:=r5.Parties) rfl rfl (cG fZ)) (dX (fy (f:=ba) (g:=au) (xs:=r5.Clauses) rfl rfl (cG ge)) im))) (bC (rA (dX (fU rfl) (dX (fy (f:=str) (g:=str) (xs:=r6.Facts) rfl rfl (cG fZ)) (dX (fy (f:=ah) (g:=ah) (xs:=r6.Duties) rfl rfl (cG iA)) (dX (fy (f:=I) (g:=I) (xs:=r6.Balances) rfl rfl (cG rR)) (dX (fU rfl) im)))))) dM)) (Sr hr7) (.inl rfl) ew rfl rfl rfl)) ?_ (dU rfl rfl rfl rfl (bC (rA (dX (fy (f:=str) (g:=str) (xs:=r5.Parties) rfl rfl (cG fZ)) (dX (fy (f:=ba) (g:=au) (xs:=r5.Clauses) rfl rfl (cG ge)) im))) (bC (rA (dX (fU rfl) (dX (fy (f:=str) (g:=str) (xs:=r6.Facts) rfl rfl (cG fZ)) (dX (fy (f:=ah) (g:=ah) (xs:=r6.Duties) rfl rfl (cG iA)) (dX (fy (f:=I) (g:=I) (xs:=r6.Balances) rfl rfl (cG rR)) (dX (fU rfl) im)))))) dM)) (Sr hr7) (.inl rfl) rfl)
   refine dk 5 [7,6,29,28,22] [B r7.2,I r7.1,B r7.2,I r7.1,.tup [I r7.1,B r7.2]] ?_
   refine de 417 rfl rfl ?_
   refine cq 3 [30] [aX kd] 433 ?_
   obtain⟨r8,hr8,h⟩:=bS h
   refine oq 449 (.agg [.hs 433 0 [] 1 0 (r8.Parties.map str).length,.hs 434 0 [] 12 0 (r8.Clauses.map ba).length]) rfl (cP (wo hr8)) ?_
   refine ck 1 [8] [] [449] [] [.hp 449 0 [] 2 0 0] [some ⟨0,2,[.agg [.isl true [],.isl true []]]⟩] 465 (by kernel_rfl) ?_
   refine fI 449 [.agg [.usl 1 (([]).map str),.usl 12 (([]).map ba)]] rfl rfl (aL (gU (aL (.nil _) (aL (.nil _) eL))) eL) ?_
   refine o0 481 rfl rfl (fQ rfl rfl (eY (path:=[]) (pl:=false) (e':=.agg [.usl 1 (r8.Parties.map str),.usl 12 (r8.Clauses.map ba)]) (es2':=[.agg [.usl 1 (r8.Parties.map str),.usl 12 (r8.Clauses.map ba)]]) rfl (oX (cD (dV rfl rfl) (cD (dV rfl rfl) oY))) rfl rfl rfl aW rfl rfl rfl rfl rfl ey 2 rfl)) ?_
   refine cq 4 [32] [bK ke] 497 ?_
   obtain⟨r9,hr9,h⟩:=bS h
   refine oq 513 (.agg [I r9.Day,.hs 497 0 [] 1 0 (r9.Facts.map str).length,.hs 498 0 [] 4 0 (r9.Duties.map ah).length,.hs 499 0 [] 1 0 (r9.Balances.map I).length,B r9.Over]) rfl (cP (wr hr9)) ?_
   refine ck 1 [9] [] [513] [] [.hp 513 0 [] 5 0 0] [some ⟨0,5,[.agg [I (0),.isl true [],.isl true [],.isl true [],B false]]⟩] 529 (by kernel_rfl) ?_
   refine fI 513 [.agg [I (0),.usl 1 (([]).map str),.usl 4 (([]).map ah),.usl 1 (([]).map I),B false]] rfl rfl (aL (gU (aL (.refl _) (aL (.nil _) (aL (.nil _) (aL (.nil _) (aL (.refl _) eL)))))) eL) ?_
   refine o0 545 rfl rfl (fQ rfl rfl (eY (path:=[]) (pl:=false) (e':=.agg [I r9.Day,.usl 1 (r9.Facts.map str),.usl 4 (r9.Duties.map ah),.usl 1 (r9.Balances.map I),B r9.Over]) (es2':=[.agg [I r9.Day,.usl 1 (r9.Facts.map str),.usl 4 (r9.Duties.map ah),.usl 1 (r9.Balances.map I),B r9.Over]]) rfl (oX (cD (cY rfl) (cD (dV rfl rfl) (cD (dV rfl rfl) (cD (dV rfl rfl) (cD (cY rfl) oY)))))) rfl rfl rfl aW rfl rfl rfl rfl rfl ey 2 rfl)) ?_
   refine cq 5 [35,36] [.agg [.hs 449 2 [(0,0)] 1 0 (r8.Parties.map str).length,.hs 449 2 [(0,1)] 12 0 (r8.Clauses.map ba).length],.agg [I r9.Day,.hs 513 2 [(0,1)] 1 0 (r9.Facts.map str).length,.hs 513 2 [(0,2)] 4 0 (r9.Duties.map ah).length,.hs 513 2 [(0,3)] 1 0 (r9.Balances.map I).length,B r9.Over]] 577 ?_
   obtain⟨r10,hr10,h⟩:=bS h
   refine oq 593 (.tup [I r10.1,B r10.2]) rfl (cm rfl rfl (cU rfl rfl rfl (bC (rA (dX (ku (path:=[(0,0)]) rfl rfl (gj rfl rfl aW) rfl (cG (f:=str) fZ)) (dX (ku (path:=[(0,1)]) rfl rfl (gj rfl rfl aW) rfl (cG (f:=ba) ge)) im))) (bC (rA (dX (fU rfl) (dX (ku (path:=[(0,1)]) rfl rfl (gj rfl rfl aW) rfl (cG (f:=str) fZ)) (dX (ku (path:=[(0,2)]) rfl rfl (gj rfl rfl aW) rfl (cG (f:=ah) iA)) (dX (ku (path:=[(0,3)]) rfl rfl (gj rfl rfl aW) rfl (cG (f:=I) rR)) (dX (fU rfl) im)))))) dM)) (aco hr10) (.inl rfl) ew rfl rfl rfl)) ?_
   refine cq 13 [11,43] [B r10.2,B (r10.1 != r7.1)] 737 ?_
   obtain⟨u11,hu11,h⟩:=lJ h
   have j11:Run ig 0 (kB (kd,ke) r) (.code (cR (cL (cR (cR (cR (cR (cR (cR (cR (cR (cR (cR fN))))))))))))::.code (cR (cR (cR (cR (cR (cR (cR (cR (cR (cR (cR fN)))))))))))::[]) (sT 58 [(2,.hp 1 0 [] 2 0 0),(3,.hp 2 0 [] 5 0 0),(8,.hp 3 0 [] 2 0 0),(9,.hp 4 0 [] 5 0 0),(47,B u11)] [⟨0,2,[aX kd]⟩,⟨0,5,[bK ke]⟩,⟨0,2,[.agg [.usl 1 (r8.Parties.map str),.usl 12 (r8.Clauses.map ba)]]⟩,⟨0,5,[.agg [I r9.Day,.usl 1 (r9.Facts.map str),.usl 4 (r9.Duties.map ah),.usl 1 (r9.Balances.map I),B r9.Over]]⟩] 5):=by
    refine sq h ?_ ?_<;>intro h
    ·refine cq 4 [4] [B false] 21 ?_
     obtain rfl:=Option.some.inj h
     exact rP [B false]
    ·refine aq 1 ?_
     refine aq 2 ?_
     refine dK [0,0,2,7,15] rfl (by decide +kernel) ?_
     refine dq [3] [] (.agg [.hs 3 0 [(0,0)] 1 0 (r8.Parties.map str).length,.hs 3 0 [(0,1)] 12 0 (r8.Clauses.map ba).length]) rfl (aN rfl rfl) ?_
     refine dq [1] [] (aX kd) rfl (aN rfl rfl) ?_
     obtain⟨r12,hr12,h⟩:=bS h
     refine dq [] [] (.agg [.hs 37 0 [] 1 0 (r12.Parties.map str).length,.hs 38 0 [] 12 0 (r12.Clauses.map ba).length]) rfl (cP (wo hr12)) ?_ (dU rfl rfl rfl rfl (bC (cg rfl) dM) (wo hr12) (.inr rfl) rfl)
     obtain⟨r13,hr13,h⟩:=bS h
     refine dq [3,3,37,38] [] (B r13) rfl (cm rfl rfl (cU rfl rfl rfl (bC (rA (dX (ku (path:=[(0,0)]) rfl rfl (gj rfl rfl aW) rfl (cG (f:=str) fZ)) (dX (ku (path:=[(0,1)]) rfl rfl (gj rfl rfl aW) rfl (cG (f:=ba) ge)) im))) (bC (rA (dX (fy (f:=str) (g:=str) (xs:=r12.Parties) rfl rfl (cG fZ)) (dX (fy (f:=ba) (g:=au) (xs:=r12.Clauses) rfl rfl (cG ge)) im))) dM)) (QH hr13) (.inl rfl) ew rfl rfl rfl)) ?_ (dU rfl rfl rfl rfl (bC (rA (dX (ku (path:=[(0,0)]) rfl rfl (gj rfl rfl aW) rfl (cG (f:=str) fZ)) (dX (ku (path:=[(0,1)]) rfl rfl (gj rfl rfl aW) rfl (cG (f:=ba) ge)) im))) (bC (rA (dX (fy (f:=str) (g:=str) (xs:=r12.Parties) rfl rfl (cG fZ)) (dX (fy (f:=ba) (g:=au) (xs:=r12.Clauses) rfl rfl (cG ge)) im))) dM)) (QH hr13) (.inl rfl) rfl)
     refine dk 1 [52] [B (!r13)] ?_
     refine de 85 rfl rfl ?_
     refine sq h ?_ ?_<;>intro h
     ·refine cq 4 [4] [B false] 101 ?_
      obtain rfl:=Option.some.inj h
      exact rP [B false]
     ·refine aq 1 ?_
      refine aq 2 ?_
      refine dK [0,0,2,7,15] rfl (by decide +kernel) ?_
      refine dq [4] [] (.agg [I r9.Day,.hs 4 0 [(0,1)] 1 0 (r9.Facts.map str).length,.hs 4 0 [(0,2)] 4 0 (r9.Duties.map ah).length,.hs 4 0 [(0,3)] 1 0 (r9.Balances.map I).length,B r9.Over]) rfl (aN rfl rfl) ?_
      refine dq [2] [] (bK ke) rfl (aN rfl rfl) ?_
      obtain⟨r14,hr14,h⟩:=bS h
      refine dq [] [] (.agg [I r14.Day,.hs 117 0 [] 1 0 (r14.Facts.map str).length,.hs 118 0 [] 4 0 (r14.Duties.map ah).length,.hs 119 0 [] 1 0 (r14.Balances.map I).length,B r14.Over]) rfl (cP (wr hr14)) ?_ (dU rfl rfl rfl rfl (bC (cg rfl) dM) (wr hr14) (.inr rfl) rfl)
      obtain⟨r15,hr15,h⟩:=bS h
      refine dq [4,4,4,117,118,119] [] (B r15) rfl (cm rfl rfl (cU rfl rfl rfl (bC (rA (dX (fU rfl) (dX (ku (path:=[(0,1)]) rfl rfl (gj rfl rfl aW) rfl (cG (f:=str) fZ)) (dX (ku (path:=[(0,2)]) rfl rfl (gj rfl rfl aW) rfl (cG (f:=ah) iA)) (dX (ku (path:=[(0,3)]) rfl rfl (gj rfl rfl aW) rfl (cG (f:=I) rR)) (dX (fU rfl) im)))))) (bC (rA (dX (fU rfl) (dX (fy (f:=str) (g:=str) (xs:=r14.Facts) rfl rfl (cG fZ)) (dX (fy (f:=ah) (g:=ah) (xs:=r14.Duties) rfl rfl (cG iA)) (dX (fy (f:=I) (g:=I) (xs:=r14.Balances) rfl rfl (cG rR)) (dX (fU rfl) im)))))) dM)) (QT hr15) (.inl rfl) ew rfl rfl rfl)) ?_ (dU rfl rfl rfl rfl (bC (rA (dX (fU rfl) (dX (ku (path:=[(0,1)]) rfl rfl (gj rfl rfl aW) rfl (cG (f:=str) fZ)) (dX (ku (path:=[(0,2)]) rfl rfl (gj rfl rfl aW) rfl (cG (f:=ah) iA)) (dX (ku (path:=[(0,3)]) rfl rfl (gj rfl rfl aW) rfl (cG (f:=I) rR)) (dX (fU rfl) im)))))) (bC (rA (dX (fU rfl) (dX (fy (f:=str) (g:=str) (xs:=r14.Facts) rfl rfl (cG fZ)) (dX (fy (f:=ah) (g:=ah) (xs:=r14.Duties) rfl rfl (cG iA)) (dX (fy (f:=I) (g:=I) (xs:=r14.Balances) rfl rfl (cG rR)) (dX (fU rfl) im)))))) dM)) (QT hr15) (.inl rfl) rfl)
      refine dk 1 [57] [B (!r15)] ?_
      refine de 165 rfl rfl ?_
      refine sq h ?_ ?_<;>intro h
      ·refine cq 4 [4] [B false] 181 ?_
       obtain rfl:=Option.some.inj h
       exact rP [B false]
      ·refine aq 1 ?_
       refine cq 4 [4] [B true] 181 ?_
       obtain rfl:=Option.some.inj h
       exact rP [B true]
   replace h:=hu11
   clear hu11
   refine sp 43 h rfl ?_ ?_<;>intro h
   ·refine cq 5 [47] [B true] 801 ?_
    subst h
    exact rf [2,3,8,9,47] [1,17,449,513] (j11 :)
   ·refine cq 5 [47] [B (!(r10.2==r7.2))] 801 ?_
    subst h
    exact rf [2,3,8,9,47] [1,17,449,513] (j11 :)
theorem oC {G:Go.Ln.Ground}:aV Tryz.prog G 4 gH:=gT 2 0 (aM Q9 (aM Rg (aM Rv (aM RG (aM Ss (aM Wm (aM QI (aM QU bF)))))))) ci Tryz.func4 (fun a r h=>pd a.1 a.2 r h)
end
end Go.Ln
