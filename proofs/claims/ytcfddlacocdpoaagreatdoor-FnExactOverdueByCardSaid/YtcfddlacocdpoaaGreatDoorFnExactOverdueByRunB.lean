/-
  The walks.
-/
import Derived.Test.YtcfddlacocdpoaaGreatDoorFnExactOverdueByRunA
set_option maxHeartbeats 4000000
set_option linter.unusedVariables false
set_option linter.unusedSimpArgs false
set_option maxRecDepth 100000
namespace Go.Ln
open Go Go.Proofs
theorem RS (c_1:Contract):cg RR 0 (aa6 c_1) (cL (cL (cR (cL (cR (cR aa7)))))) 0 (qN c_1) (fun u=>(sT 25 [(3,.hs 1 0 [] 1 0 (u.map str).length)] [⟨0,1,u.map str⟩] 2)) fun x2=>(sT 25 [(3,.hs 1 0 [] 1 0 (x2.2.map str).length),(8,.isl false (c_1.Clauses.map au)),(9,I (len c_1.Clauses)),(10,I x2.1)] [⟨0,1,x2.2.map str⟩] 2):=ef (H0 c_1) fun {Q K} hK self ih x2 y h hr hn=>by
 unfold nM at h
 refine cq 5 [11] [B (decide (x2.1<(len c_1.Clauses)))] 18 ?_
 refine sq h ?_ ?_<;>intro h
 ·refine aq 1 ?_
  refine aq 4 ?_
  obtain⟨e3,he3,h⟩:=bS h
  refine oq 34 (.iptr (aB e3) 0) rfl (al rfl rfl rfl (bn rfl rfl rfl rfl he3)) ?_
  refine ck 2 [5,13] [] [50] [] [.hp 50 0 [] 12 0 0,aB e3] [some ⟨0,12,[.agg [str ([]),I (0),I (0),str ([]),I (0),I (0),I (0),str ([]),I (0),.isl true [],I (0),str ([])]]⟩] 66 (by kernel_rfl) ?_
  refine gk 50 [.agg [str ([]),I (0),I (0),str ([]),I (0),I (0),I (0),str ([]),I (0),.usl 4 (([]).map aj),I (0),str ([])]] rfl rfl (aQ (iw (aQ (.refl _) (aQ (.refl _) (aQ (.refl _) (aQ (.refl _) (aQ (.refl _) (aQ (.refl _) (aQ (.refl _) (aQ (.refl _) (aQ (.refl _) (aQ (.nil _) (aQ (.refl _) (aQ (.refl _) fh))))))))))))) fh) ?_
  refine ck 2 [] [] [50] [] [] [some ⟨2,12,[aB e3]⟩] 82 (by kernel_rfl) ?_
  refine d7 [0,1,0,0,8,24,60,127,255] rfl (by decide +kernel) ?_
  refine dq [50] [] (.hp 50 0 [] 12 0 6) rfl (ay rfl rfl rfl) ?_
  refine dq [50] [] (ar e3.When) rfl (aU rfl rfl) ?_
  refine dk 1 [16] [.hs 1 0 [] 1 0 (x2.2.map str).length] ?_
  refine dq [50] [] (.hp 50 0 [] 12 0 3) rfl (ay rfl rfl rfl) ?_
  refine dq [50] [] (str e3.Action) rfl (aU rfl rfl) ?_
  refine dq [] [] (.hs 162 0 [] 1 0 1) rfl (eH rfl (kH (f:=I) (xs:=[]) (z:=str ([])) (es:=[str e3.Action]) (ws:=[str e3.Action]) rfl rfl rfl (by decide) rfl (dX rfl) rfl)) ?_
  obtain⟨a4,ha4,h⟩:=bS h
  refine dq [1,162] [1] (.hs 178 0 [] 1 0 (a4.map str).length) rfl (jH rfl rfl rfl rfl rfl (np (path:=[]) (f:=str) (xs:=x2.2) (ys:=[e3.Action]) rfl rfl (sf rfl rfl rfl) rfl rfl rfl aF rfl (by decide) mF ha4 rfl ro)) ?_ (I3 rfl (H9 (path:=[]) (f:=str) (xs:=[e3.Action]) rfl rfl aF nU rfl))
  obtain⟨r5,hr5,h⟩:=bS h
  refine dq [178] [178] (.hs 194 0 [] 1 0 (r5.map str).length) rfl (bK rfl rfl (b8 rfl rfl rfl (bg (bW rfl) (iE (iI rfl (eJ (path:=[]) rfl rfl aF rfl)) dj)) (aaZ hr5) (.inr rfl) (gE rfl rfl rfl mT dK) rfl rfl rfl)) ?_ (dZ rfl rfl rfl rfl (bg (bW rfl) (iE (iI rfl (eJ (path:=[]) rfl rfl aF rfl)) dj)) (aaZ hr5) (.inr rfl) rfl)
  refine dk 1 [3] [.hs 194 0 [] 1 0 (r5.map str).length] ?_
  refine de 226 rfl rfl ?_
  refine cq 5 [10] [I (ac (x2.1+1))] 258 ?_
  refine cX ?_
  exact rf [3,8,9,10] [194] (ih _ _ h hr hn :)
 ·refine aq 1 ?_
  exact rf [3] [1] (hn _ (an h) :) (hk:=hK)
theorem abW (c_1:Contract)(r:(List ae))(h:Bz c_1=some r):bx RR Tryz.f101 [false] 0 (LS c_1) (LT r):=by
 show Run _ _ (aa6 c_1 r) [.code aa7] _
 refine rI 25 [(0,aa c_1)] [] 1 ?_
 unfold Bz at h
 refine ck 7 [1] [] [1] [] [.hp 1 0 [] 2 0 0] [some ⟨0,2,[aa c_1]⟩] 33 (by kernel_rfl) ?_
 refine oq 49 (.hs 33 0 [] 1 0 0) rfl (eH rfl (kH (f:=I) (xs:=[]) (z:=str ([])) (es:=[]) (ws:=[]) rfl rfl rfl (by decide) rfl (dX rfl) rfl)) ?_
 refine cq 7 [3,8] [.hs 33 0 [] 1 0 0,.isl false (c_1.Clauses.map au)] 97 ?_
 refine oq 113 (I (len c_1.Clauses)) rfl (bw rfl rfl rfl (bR rfl)) ?_
 refine cq 3 [10] [I (0)] 129 ?_
 obtain⟨y6,hy6,hy61,hy62⟩:=bJ h
 refine bM rfl ?_
 refine rf [3,8,9,10] [33] (RS c_1 rfl (0,[]) _ hy6 (fun r' e st hq=>by rw[hy61 r' e] at hq;exact hq) fun u6 hu=>?_)
 replace h:=hy62 u6 hu
 refine cq 3 [23] [.hs 1 0 [] 1 0 (u6.map str).length] 18 ?_
 obtain⟨r7,hr7,h⟩:=bS h
 refine oq 34 (.hs 18 0 [] 1 0 (r7.map str).length) rfl (bK rfl rfl (b8 rfl rfl rfl (iE (iI rfl (eJ (path:=[]) rfl rfl aF rfl)) dj) (ac1 hr7) (.inr rfl) (gE rfl rfl rfl mT dK) rfl rfl rfl)) ?_
 refine cq 2 [2] [.hs 18 0 [] 1 0 (r7.map str).length] 50 ?_
 obtain rfl:=sI h
 exact ca rfl ⟨_,fin (vs:=[.hs 18 0 [] 1 0 (r7.map str).length]) rfl (eU (gi rfl (dx rfl rfl)) d3) rfl (cz eP),eI⟩
theorem Nz {G:cb}:b9 G 101 zO:=gT 1 0 (aN Zy (aN S1 bB)) cn Tryz.func101 (fun a r h=>abW a r h)
def Lq:Contract→List V:=oA aV
def Ls (r:Bool):V×List V:=(B r,[])
noncomputable def Je :=bm [false] Lq Ls fun x=>MU x
theorem afJ {c_1:Contract}{r}(h:MU c_1=some r):Je.F (Lq c_1)=some (Ls r):=aK (aL bv) h
noncomputable def Lu :=aI Tryz.f47
noncomputable def Lr :=cm [(98,Jw),(100,JC),(101,zO),(99,jF)]
def FZ (x:Contract)(r:Bool):St→Prop:=QF Lr Tryz.f47 [false] (Lq x) (Ls r)
theorem Rq (c_1:Contract):cg Lr 0 (FZ c_1) (cL (cL (cR (cL (cR (cR Lu)))))) 0 (pb c_1) (fun u=>(sT 30 [(1,.hp 1 0 [] 2 0 0)] [⟨0,2,[aa c_1]⟩] 2)) fun x4=>(sT 30 [(1,.hp 1 0 [] 2 0 0),(17,I (len c_1.Clauses)),(18,I x4)] [⟨0,2,[aa c_1]⟩] 2):=ef (F0 c_1) fun {Q K} hK self ih x4 y h hr hn=>by
 unfold nJ at h
 refine cq 5 [19] [B (decide (x4<(len c_1.Clauses)))] 18 ?_
 refine sq h ?_ ?_<;>intro h
 ·refine aq 1 ?_
  refine cq 11 [21,22] [aa c_1,I x4] 82 ?_
  obtain⟨r5,hr5,h⟩:=bS h
  refine oq 98 (B r5) rfl (cP (af0 hr5)) ?_
  refine cq 2 [24] [B (!r5)] 114 ?_
  refine sq h ?_ ?_<;>intro h
  ·refine cq 4 [2] [B false] 130 ?_
   exact ca rfl (hr _ (an h) _ (qp [B false]))
  ·refine aq 1 ?_
   refine cq 5 [18] [I (ac (x4+1))] 146 ?_
   refine cX ?_
   exact rf [1,17,18] [1] (ih _ _ h hr hn :)
 ·refine aq 1 ?_
  exact rf [1] [1] (hn _ (an h) :) (hk:=hK)
theorem abA (c_1:Contract)(r:Bool)(h:MU c_1=some r):bx Lr Tryz.f47 [false] 0 (Lq c_1) (Ls r):=by
 show Run _ _ (FZ c_1 r) [.code Lu] _
 refine rI 30 [(0,aa c_1)] [] 1 ?_
 unfold MU at h
 refine ck 10 [1,5] [] [1] [] [.hp 1 0 [] 2 0 0,.isl false (c_1.Parties.map str)] [some ⟨0,2,[aa c_1]⟩] 65 (by kernel_rfl) ?_
 obtain⟨r2,hr2,h⟩:=bS h
 refine oq 81 (B r2) rfl (cP (afN hr2)) ?_
 refine cq 2 [8] [B (!r2)] 113 ?_
 obtain⟨y3,hy3,hy31,hy32⟩:=bJ h
 have j3:∀u3,y3=.inr u3→Run Lr 0 (FZ c_1 r) (.code (cR (cL (cR Lu)))::.code (cR (cR Lu))::[]) (sT 30 [(1,.hp 1 0 [] 2 0 0),(14,B u3)] [⟨0,2,[aa c_1]⟩] 2):=by
  intro u3 hu
  replace h:=hy32 u3 hu
  refine sq h ?_ ?_<;>intro h
  ·refine cq 4 [2] [B false] 18 ?_
   obtain rfl:=sI h
   exact rP [B false]
  ·refine aq 1 ?_
   refine cq 5 [16] [.isl false (c_1.Clauses.map au)] 34 ?_
   refine oq 50 (I (len c_1.Clauses)) rfl (bw rfl rfl rfl (bR rfl)) ?_
   refine cq 3 [18] [I (0)] 66 ?_
   obtain⟨y6,hy6,hy61,hy62⟩:=bJ h
   refine bM rfl ?_
   refine rf [1,17,18] [1] (Rq c_1 rfl 0 _ hy6 (fun r' e st hq=>by rw[hy61 r' e] at hq;exact hq) fun u6 hu=>?_)
   replace h:=hy62 u6 hu
   refine cq 3 [26] [aa c_1] 18 ?_
   obtain⟨r7,hr7,h⟩:=bS h
   refine oq 34 (.hs 18 0 [] 1 0 (r7.map str).length) rfl (cP (aa5 hr7)) ?_
   refine oq 50 (I (len r7)) rfl (bw rfl rfl rfl (mW (f:=str) (xs:=r7) rfl rfl)) ?_
   refine cq 3 [2] [B (decide ((len r7)≤16))] 82 ?_
   obtain rfl:=sI h
   exact rP [B (decide ((len r7)≤16))]
 have r3:∀r',y3=.inl r'→∀st,FZ c_1 r' st→(FZ c_1 r) st:=fun r' e st hq=>by rw[hy31 r' e] at hq;exact hq
 replace h:=hy3
 refine sp 8 h rfl ?_ ?_<;>intro h
 ·refine cq 7 [14] [B true] 209 ?_
  exact rf [1,14] [1] (j3 _ (an h) :)
 ·refine cq 2 [10] [.isl false (c_1.Clauses.map au)] 145 ?_
  refine oy 161 (I (len c_1.Clauses)) rfl (bw rfl rfl rfl (bR rfl)) ?_
  obtain⟨r8,hr8,h⟩:=bS h
  refine oy 177 (B r8) rfl (cP (jq hr8)) ?_
  refine cq 3 [14] [B (!r8)] 209 ?_
  exact rf [1,14] [1] (j3 _ (an h) :)
theorem YK {G:cb}:b9 G 47 Je:=gT 1 0 (aN Zz (aN ZF (aN Nz (aN kt bB)))) cn Tryz.func47 (fun a r h=>abA a r h)
def L9:(List ae)→List V:=oA (gp str)
def Mb (r:Bool):V×List V:=(B r,[])
noncomputable def JH :=bm [false] L9 Mb fun x=>NG x
theorem agd {cp:List ae}{r}(h:NG cp=some r):JH.F (L9 cp)=some (Mb r):=aK (aL (cr bP)) h
noncomputable def abd :=aI Tryz.f158
noncomputable abbrev vx :=cL (cL (cR (cL (cR abd))))
noncomputable abbrev Wx :=cR (cR (cL (cL (cR (cR vx)))))
noncomputable def H2 :=cm [(81,rZ)]
def Ma (x:(List ae))(r:Bool):St→Prop:=QF H2 Tryz.f158 [false] (L9 x) (Mb r)
theorem RT (cp:List ae):cg H2 0 (Ma cp) vx 0 (pi cp) (fun u=>(sT 32 [(0,.isl false (cp.map str))] [] 1)) fun x2=>(sT 32 [(0,.isl false (cp.map str)),(5,.isl false (cp.map str)),(6,I (len cp)),(7,I x2)] [] 1):=ef (H3 cp) fun {Q K} hK self ih x2 y h hr hn=>by
 unfold nN at h
 refine cq 5 [8] [B (decide (x2<(len cp)))] 17 ?_
 refine sq h ?_ ?_<;>intro h
 ·refine aq 1 ?_
  refine cq 5 [9] [I x2] 33 ?_
  obtain⟨e3,he3,h⟩:=bS h
  refine oq 49 (.iptr (str e3) 0) rfl (al rfl rfl rfl (bn rfl rfl rfl rfl he3)) ?_
  refine cq 7 [3,4,12] [I x2,str e3,str e3] 113 ?_
  obtain⟨r4,hr4,h⟩:=bS h
  refine oq 129 (B r4) rfl (cP (G5 hr4)) ?_
  refine cq 2 [15] [B (!r4)] 161 ?_
  obtain⟨y5,hy5,hy51,hy52⟩:=bL h
  have j5:∀u5,y5=.inr u5→Run H2 0 Q (.code Wx::.blk 1::.code (cR (cR (cR vx)))::.lp vx::.blk 0::K) (sT 32 [(0,.isl false (cp.map str)),(5,.isl false (cp.map str)),(6,I (len cp)),(7,I x2),(27,B u5)] [] 1):=by
   intro u5 hu
   replace h:=hy52 u5 hu
   refine sq h ?_ ?_<;>intro h
   ·refine cq 4 [2] [B false] 17 ?_
    exact ca rfl (hr _ (an h) _ (qp [B false]))
   ·refine aq 1 ?_
    refine cq 5 [7] [I (ac (x2+1))] 33 ?_
    refine cX ?_
    exact rf [0,5,6,7] [] (ih _ _ h hr hn :)
  have r5:∀r',y5=.inl r'→∀st,Ma cp r' st→Q st:=fun r' e st hq=>hr r' (hy51 r' e) st hq
  replace h:=hy5
  refine sp 15 h rfl ?_ ?_<;>intro h
  ·refine cq 13 [27] [B true] 353 ?_
   exact rf [0,5,6,7,27] [] (j5 _ (an h) :)
  ·refine cq 3 [18] [B (decide (x2>0))] 209 ?_
   obtain⟨y6,hy6,hy61,hy62⟩:=bL h
   have j6:∀u6,y6=.inr u6→Run H2 0 Q (.code Wx::.blk 1::.code (cR (cR (cR vx)))::.lp vx::.blk 0::K) (sT 32 [(0,.isl false (cp.map str)),(5,.isl false (cp.map str)),(6,I (len cp)),(7,I x2),(27,B u6)] [] 1):=by
    intro u6 hu
    replace h:=hy62 u6 hu
    exact rf [0,5,6,7,27] [] (j5 _ (an h) :)
   have r6:∀r',y6=.inl r'→∀st,Ma cp r' st→Q st:=fun r' e st hq=>r5 r' (hy61 r' e) st hq
   replace h:=hy6
   refine sp 18 h rfl ?_ ?_<;>intro h
   ·refine cq 4 [19,20,22] [str e3,.isl false (cp.map str),I (ac (x2 - 1))] 273 ?_
    obtain⟨e7,he7,h⟩:=bS h
    refine oy 289 (.iptr (str e7) 0) rfl (al rfl rfl rfl (bn rfl rfl rfl rfl he7)) ?_
    refine cq 5 [27] [B (Op.bytesLess e3 e7||e3==e7)] 353 ?_
    exact rf [0,5,6,7,27] [] (j6 _ (an h) :)
   ·refine cq 10 [27] [B false] 353 ?_
    exact rf [0,5,6,7,27] [] (j6 _ (an h) :)
 ·refine aq 1 ?_
  exact rf [0] [] (hn _ (an h) :) (hk:=hK)
theorem ab5 (cp:List ae)(r:Bool)(h:NG cp=some r):bx H2 Tryz.f158 [false] 0 (L9 cp) (Mb r):=by
 show Run _ _ (Ma cp r) [.code abd] _
 refine rI 32 [(0,.isl false (cp.map str))] [] 1 ?_
 unfold NG at h
 refine cq 8 [5] [.isl false (cp.map str)] 33 ?_
 refine oq 49 (I (len cp)) rfl (bw rfl rfl rfl (bR rfl)) ?_
 refine cq 3 [7] [I (0)] 65 ?_
 obtain⟨y8,hy8,hy81,hy82⟩:=bJ h
 refine bM rfl ?_
 refine rf [0,5,6,7] [] (RT cp rfl 0 _ hy8 (fun r' e st hq=>by rw[hy81 r' e] at hq;exact hq) fun u8 hu=>?_)
 replace h:=hy82 u8 hu
 refine cq 3 [29] [.isl false (cp.map str)] 17 ?_
 refine oq 33 (I (len cp)) rfl (bw rfl rfl rfl (bR rfl)) ?_
 refine cq 3 [2] [B (decide ((len cp)≤16))] 65 ?_
 obtain rfl:=sI h
 exact rP [B (decide ((len cp)≤16))]
theorem ZK {G:cb}:b9 G 158 JH:=gT 1 0 (aN wn bB) cn Tryz.func158 (fun a r h=>ab5 a r h)
def Me:(ae×(List ae))→List V:=cA str (oA (fun x:List ae=>.iptr ((gp str) x) 0))
def Mf (r:Bool):V×List V:=(B r,[])
noncomputable def JJ :=bm [false,false] Me Mf fun x=>NI x.1 x.2
theorem agf {f_1:ae}{a_2:List ae}{r}(h:NI f_1 a_2=some r):JJ.F (Me (f_1,a_2))=some (Mf r):=aK (aO bP (aL (nS (cr bP)))) h
noncomputable def agi :=aI Tryz.f160
noncomputable def abe :=cm [(129,sn)]
def agh (x:ae×(List ae))(r:Bool):St→Prop:=QF abe Tryz.f160 [false,false] (Me x) (Mf r)
theorem ab7 (f_1:ae)(a_2:List ae)(r:Bool)(h:NI f_1 a_2=some r):bx abe Tryz.f160 [false,false] 0 (Me (f_1,a_2)) (Mf r):=by
 show Run _ _ (agh (f_1,a_2) r) [.code agi] _
 refine rI 8 [(0,str f_1),(1,.iptr (.isl false (a_2.map str)) 0)] [] 1 ?_
 unfold NI at h
 refine cq 8 [4,5] [.isl false (a_2.map str),str f_1] 49 ?_
 obtain⟨r3,hr3,h⟩:=bS h
 refine oq 65 (B r3) rfl (cP (MV hr3)) ?_
 refine cq 3 [3] [B (!r3)] 97 ?_
 obtain rfl:=sI h
 exact rP [B (!r3)]
theorem ZM {G:cb}:b9 G 160 JJ:=gT 2 0 (aN xY bB) cn Tryz.func160 (fun a r h=>ab7 a.1 a.2 r h)
def Gb:((List ae)×(List ae))→List V:=cA (gp str) (oA (fun x:(List ae)=>(.fn 160 [.iptr ((gp str) x) 0]:V)))
def Gc (r:Int):V×List V:=(I r,[])
noncomputable def C7 :=bm [false,false] Gb Gc fun x=>Jj x.1 x.2
theorem aer {s_1:List ae}{f_2:(List ae)}{r}(h:Jj s_1 f_2=some r):C7.F (Gb (s_1,f_2))=some (Gc r):=aK (aO (cr bP) (aL (jo (cr bP)))) h
noncomputable def Vh :=aI Tryz.f182
noncomputable def M0 :=cm [(160,JJ)]
def Vg (x:(List ae)×(List ae))(r:Int):St→Prop:=QF M0 Tryz.f182 [false,false] (Gb x) (Gc r)
theorem Pt (s_1:List ae)(f_2:(List ae)):cg M0 0 (Vg (s_1,f_2)) (cL (cL (cR (cL (cR Vh))))) 0 (uV s_1 f_2) (fun u=>(sT 19 [] [] 1)) fun x3=>(sT 19 [(0,.isl false (s_1.map str)),(1,.fn 160 [.iptr (.isl false (f_2.map str)) 0]),(7,I (len s_1)),(8,I x3)] [] 1):=ef (AR s_1 f_2) fun {Q K} hK self ih x3 y h hr hn=>by
 unfold ox at h
 refine cq 5 [9] [B (decide (x3<(len s_1)))] 17 ?_
 refine sq h ?_ ?_<;>intro h
 ·refine aq 1 ?_
  refine cq 12 [5,11,12,13] [I x3,.fn 160 [.iptr (.isl false (f_2.map str)) 0],.isl false (s_1.map str),I x3] 97 ?_
  obtain⟨e4,he4,h⟩:=bS h
  refine oq 113 (.iptr (str e4) 0) rfl (al rfl rfl rfl (bn rfl rfl rfl rfl he4)) ?_
  refine cq 1 [15] [str e4] 129 ?_
  obtain⟨r5,hr5,h⟩:=bS h
  refine oq 145 (B r5) rfl (cP (agf hr5)) ?_
  refine aq 1 ?_
  refine sq h ?_ ?_<;>intro h
  ·refine cq 5 [4] [I x3] 177 ?_
   exact ca rfl (hr _ (an h) _ (qp [I x3]))
  ·refine aq 1 ?_
   refine cq 5 [8] [I (ac (x3+1))] 177 ?_
   refine cX ?_
   exact rf [0,1,7,8] [] (ih _ _ h hr hn :)
 ·refine aq 1 ?_
  exact rf [] [] (hn _ (an h) :) (hk:=hK)
theorem YQ (s_1:List ae)(f_2:(List ae))(r:Int)(h:Jj s_1 f_2=some r):bx M0 Tryz.f182 [false,false] 0 (Gb (s_1,f_2)) (Gc r):=by
 show Run _ _ (Vg (s_1,f_2) r) [.code Vh] _
 refine rI 19 [(0,.isl false (s_1.map str)),(1,.fn 160 [.iptr (.isl false (f_2.map str)) 0])] [] 1 ?_
 unfold Jj at h
 refine cq 8 [6] [.isl false (s_1.map str)] 33 ?_
 refine oq 49 (I (len s_1)) rfl (bw rfl rfl rfl (bR rfl)) ?_
 refine cq 3 [8] [I (0)] 65 ?_
 obtain⟨y6,hy6,hy61,hy62⟩:=bJ h
 refine bM rfl ?_
 refine rf [0,1,7,8] [] (Pt s_1 f_2 rfl 0 _ hy6 (fun r' e st hq=>by rw[hy61 r' e] at hq;exact hq) fun u6 hu=>?_)
 replace h:=hy62 u6 hu
 refine cq 4 [4] [I (-1)] 17 ?_
 obtain rfl:=sI h
 exact rP [I (-1)]
theorem Vi {G:cb}:b9 G 182 C7:=gT 2 0 (aN ZM bB) cn Tryz.func182 (fun a r h=>YQ a.1 a.2 r h)
def FX:((List ae)×(List ae))→List V:=cA (gp str) (oA (fun x:(List ae)=>(.fn 160 [.iptr ((gp str) x) 0]:V)))
def FY (r:Bool):V×List V:=(B r,[])
noncomputable def C2 :=bm [false,false] FX FY fun x=>Jd x.1 x.2
theorem aei {s_1:List ae}{f_2:(List ae)}{r}(h:Jd s_1 f_2=some r):C2.F (FX (s_1,f_2))=some (FY r):=aK (aO (cr bP) (aL (jo (cr bP)))) h
noncomputable def aek :=aI Tryz.f159
noncomputable def U1 :=cm [(182,C7)]
def aej (x:(List ae)×(List ae))(r:Bool):St→Prop:=QF U1 Tryz.f159 [false,false] (FX x) (FY r)
theorem YJ (s_1:List ae)(f_2:(List ae))(r:Bool)(h:Jd s_1 f_2=some r):bx U1 Tryz.f159 [false,false] 0 (FX (s_1,f_2)) (FY r):=by
 show Run _ _ (aej (s_1,f_2) r) [.code aek] _
 refine rI 9 [(0,.isl false (s_1.map str)),(1,.fn 160 [.iptr (.isl false (f_2.map str)) 0])] [] 1 ?_
 unfold Jd at h
 refine cq 8 [5,6] [.isl false (s_1.map str),.fn 160 [.iptr (.isl false (f_2.map str)) 0]] 49 ?_
 obtain⟨r3,hr3,h⟩:=bS h
 refine oq 65 (I r3) rfl (bK rfl rfl (b8 rfl rfl rfl (bg (bW rfl) (bg (oZ (dE (f6 rfl) gQ)) dj)) (aer hr3) (.inr rfl) dK rfl rfl rfl)) ?_
 refine cq 3 [4] [B (decide (r3≥0))] 97 ?_
 obtain rfl:=sI h
 exact rP [B (decide (r3≥0))]
theorem U2 {G:cb}:b9 G 159 C2:=gT 2 0 (aN Vi bB) cn Tryz.func159 (fun a r h=>YJ a.1 a.2 r h)
def Eq:(List Int)→List V:=oA (gp I)
def Er (r:Int):V×List V:=(I r,[])
noncomputable def B4 :=bm [false] Eq Er fun x=>xy x
theorem ac4 {az:List Int}{r}(h:xy az=some r):B4.F (Eq az)=some (Er r):=aK (aL (cr bf)) h
noncomputable def S3 :=aI Tryz.f161
noncomputable def Mp :=cm []
def S2 (x:(List Int))(r:Int):St→Prop:=QF Mp Tryz.f161 [false] (Eq x) (Er r)
theorem O1 (az:List Int):cg Mp 0 (S2 az) (cL (cL (cR (cL (cR (cR S3)))))) 0 (I6 az) (fun u=>(sT 17 [(3,I u)] [] 1)) fun x2=>(sT 17 [(3,I x2.1),(6,.isl false (az.map I)),(7,I (len az)),(8,I x2.2)] [] 1):=ef (O0 az) fun {Q K} hK self ih x2 y h hr hn=>by
 unfold tf at h
 refine cq 5 [9] [B (decide (x2.2<(len az)))] 17 ?_
 refine sq h ?_ ?_<;>intro h
 ·refine aq 1 ?_
  refine aq 4 ?_
  obtain⟨e3,he3,h⟩:=bS h
  refine oq 33 (.iptr (I e3) 0) rfl (al rfl rfl rfl (bn rfl rfl rfl rfl he3)) ?_
  refine cq 14 [3,8] [I (ac (x2.1+e3)),I (ac (x2.2+1))] 161 ?_
  refine cX ?_
  exact rf [3,6,7,8] [] (ih _ _ h hr hn :)
 ·refine aq 1 ?_
  exact rf [3] [] (hn _ (an h) :) (hk:=hK)
theorem XT (az:List Int)(r:Int)(h:xy az=some r):bx Mp Tryz.f161 [false] 0 (Eq az) (Er r):=by
 show Run _ _ (S2 az r) [.code S3] _
 refine rI 17 [(0,.isl false (az.map I))] [] 1 ?_
 unfold xy at h
 refine cq 12 [3,6] [I (0),.isl false (az.map I)] 49 ?_
 refine oq 65 (I (len az)) rfl (bw rfl rfl rfl (bR rfl)) ?_
 refine cq 3 [8] [I (0)] 81 ?_
 obtain⟨y4,hy4,hy41,hy42⟩:=bJ h
 refine bM rfl ?_
 refine rf [3,6,7,8] [] (O1 az rfl (0,0) _ hy4 (fun r' e st hq=>by rw[hy41 r' e] at hq;exact hq) fun u4 hu=>?_)
 replace h:=hy42 u4 hu
 refine cq 5 [2] [I u4] 33 ?_
 obtain rfl:=sI h
 exact rP [I u4]
theorem S4 {G:cb}:b9 G 161 B4:=gT 1 0 bB cn Tryz.func161 (fun a r h=>XT a r h)
def L3:(Clause×Contract×Int)→List V:=cA au (cA (fun x:Contract=>.iptr (aV x) 0) (oA (fun x:Int=>.iptr (I x) 0)))
def L4 (r:Bool):V×List V:=(B r,[])
noncomputable def JE :=bm [false,false,false] L3 L4 fun x=>NE x.1 x.2.1 x.2.2
theorem af6 {x_1:Clause}{a_2:Contract}{a_3:Int}{r}(h:NE x_1 a_2 a_3=some r):JE.F (L3 (x_1,a_2,a_3))=some (L4 r):=aK (aO dU (aO (nS bv) (aL (nS bf)))) h
noncomputable def af8 :=aI Tryz.f195
noncomputable def abb :=cm []
def af7 (x:Clause×Contract×Int)(r:Bool):St→Prop:=QF abb Tryz.f195 [false,false,false] (L3 x) (L4 r)
theorem ab1 (x_1:Clause)(a_2:Contract)(a_3:Int)(r:Bool)(h:NE x_1 a_2 a_3=some r):bx abb Tryz.f195 [false,false,false] 0 (L3 (x_1,a_2,a_3)) (L4 r):=by
 show Run _ _ (af7 (x_1,a_2,a_3) r) [.code af8] _
 refine rI 14 [(0,aB x_1),(1,.iptr (aa a_2) 0),(2,.iptr (I a_3) 0)] [] 1 ?_
 unfold NE at h
 refine ck 6 [3] [] [1] [] [.hp 1 0 [] 12 0 0] [some ⟨0,12,[aB x_1]⟩] 33 (by kernel_rfl) ?_
 refine d7 [0,1,0,4,0,28,60,124,255,511] rfl (by decide +kernel) ?_
 refine dq [1] [] (.hp 1 0 [] 12 0 11) rfl (ay rfl rfl rfl) ?_
 refine dq [1] [] (str x_1.Repair) rfl (aU rfl rfl) ?_
 refine dq [] [] (.iptr (aa a_2) 1) rfl (ay rfl rfl rfl) ?_
 refine dq [] [] (.isl false (a_2.Clauses.map au)) rfl (aU rfl rfl) ?_
 refine dq [] [] (I a_3) rfl (aU rfl rfl) ?_
 obtain⟨e4,he4,h⟩:=bS h
 refine dq [] [] (.iptr (aB e4) 0) rfl (al rfl rfl rfl (bn rfl rfl rfl rfl he4)) ?_
 refine dq [] [] (.iptr (aB e4) 0) rfl (ay rfl rfl rfl) ?_
 refine dq [] [] (str e4.Id) rfl (aU rfl rfl) ?_
 refine dk 2 [4,13] [B (x_1.Repair==e4.Id),B (x_1.Repair==e4.Id)] ?_
 refine de 193 rfl rfl ?_
 obtain rfl:=sI h
 exact rP [B (x_1.Repair==e4.Id)]
theorem ZH {G:cb}:b9 G 195 JE:=gT 3 0 bB cn Tryz.func195 (fun a r h=>ab1 a.1 a.2.1 a.2.2 r h)
def F5:((List Clause)×(Contract×Int))→List V:=cA (gp au) (oA (fun x:Contract×Int=>(.fn 195 [.iptr (aV x.1) 0,.iptr (I x.2) 0]:V)))
def F6 (r:Int):V×List V:=(I r,[])
noncomputable def C4 :=bm [false,false] F5 F6 fun x=>Jg x.1 x.2
theorem aeo {s_1:List Clause}{f_2:Contract×Int}{r}(h:Jg s_1 f_2=some r):C4.F (F5 (s_1,f_2))=some (F6 r):=aK (aO (cr dU) (aL (QL bv bf))) h
noncomputable def U8 :=aI Tryz.f110
noncomputable def MX :=cm [(195,JE)]
def U7 (x:(List Clause)×(Contract×Int))(r:Int):St→Prop:=QF MX Tryz.f110 [false,false] (F5 x) (F6 r)
theorem Pq (s_1:List Clause)(f_2:Contract×Int):cg MX 0 (U7 (s_1,f_2)) (cL (cL (cR (cL (cR U8))))) 0 (uS s_1 f_2) (fun u=>(sT 19 [] [] 1)) fun x3=>(sT 19 [(0,.isl false (s_1.map au)),(1,.fn 195 [.iptr (aa f_2.1) 0,.iptr (I f_2.2) 0]),(7,I (len s_1)),(8,I x3)] [] 1):=ef (AO s_1 f_2) fun {Q K} hK self ih x3 y h hr hn=>by
 unfold ou at h
 refine cq 5 [9] [B (decide (x3<(len s_1)))] 17 ?_
 refine sq h ?_ ?_<;>intro h
 ·refine aq 1 ?_
  refine cq 12 [5,11,12,13] [I x3,.fn 195 [.iptr (aa f_2.1) 0,.iptr (I f_2.2) 0],.isl false (s_1.map au),I x3] 97 ?_
  obtain⟨e4,he4,h⟩:=bS h
  refine oq 113 (.iptr (aB e4) 0) rfl (al rfl rfl rfl (bn rfl rfl rfl rfl he4)) ?_
  refine cq 1 [15] [aB e4] 129 ?_
  obtain⟨r5,hr5,h⟩:=bS h
  refine oq 145 (B r5) rfl (cP (af6 hr5)) ?_
  refine aq 1 ?_
  refine sq h ?_ ?_<;>intro h
  ·refine cq 5 [4] [I x3] 177 ?_
   exact ca rfl (hr _ (an h) _ (qp [I x3]))
  ·refine aq 1 ?_
   refine cq 5 [8] [I (ac (x3+1))] 177 ?_
   refine cX ?_
   exact rf [0,1,7,8] [] (ih _ _ h hr hn :)
 ·refine aq 1 ?_
  exact rf [] [] (hn _ (an h) :) (hk:=hK)
theorem YN (s_1:List Clause)(f_2:Contract×Int)(r:Int)(h:Jg s_1 f_2=some r):bx MX Tryz.f110 [false,false] 0 (F5 (s_1,f_2)) (F6 r):=by
 show Run _ _ (U7 (s_1,f_2) r) [.code U8] _
 refine rI 19 [(0,.isl false (s_1.map au)),(1,.fn 195 [.iptr (aa f_2.1) 0,.iptr (I f_2.2) 0])] [] 1 ?_
 unfold Jg at h
 refine cq 8 [6] [.isl false (s_1.map au)] 33 ?_
 refine oq 49 (I (len s_1)) rfl (bw rfl rfl rfl (bR rfl)) ?_
 refine cq 3 [8] [I (0)] 65 ?_
 obtain⟨y6,hy6,hy61,hy62⟩:=bJ h
 refine bM rfl ?_
 refine rf [0,1,7,8] [] (Pq s_1 f_2 rfl 0 _ hy6 (fun r' e st hq=>by rw[hy61 r' e] at hq;exact hq) fun u6 hu=>?_)
 replace h:=hy62 u6 hu
 refine cq 4 [4] [I (-1)] 17 ?_
 obtain rfl:=sI h
 exact rP [I (-1)]
theorem U9 {G:cb}:b9 G 110 C4:=gT 2 0 (aN ZH bB) cn Tryz.func110 (fun a r h=>YN a.1 a.2 r h)
def FR:((List Clause)×(Contract×Int))→List V:=cA (gp au) (oA (fun x:Contract×Int=>(.fn 195 [.iptr (aV x.1) 0,.iptr (I x.2) 0]:V)))
def FS (r:Bool):V×List V:=(B r,[])
noncomputable def CZ :=bm [false,false] FR FS fun x=>Ja x.1 x.2
theorem ad9 {s_1:List Clause}{f_2:Contract×Int}{r}(h:Ja s_1 f_2=some r):CZ.F (FR (s_1,f_2))=some (FS r):=aK (aO (cr dU) (aL (QL bv bf))) h
noncomputable def aeb :=aI Tryz.f194
noncomputable def UV :=cm [(110,C4)]
def aea (x:(List Clause)×(Contract×Int))(r:Bool):St→Prop:=QF UV Tryz.f194 [false,false] (FR x) (FS r)
theorem YG (s_1:List Clause)(f_2:Contract×Int)(r:Bool)(h:Ja s_1 f_2=some r):bx UV Tryz.f194 [false,false] 0 (FR (s_1,f_2)) (FS r):=by
 show Run _ _ (aea (s_1,f_2) r) [.code aeb] _
 refine rI 9 [(0,.isl false (s_1.map au)),(1,.fn 195 [.iptr (aa f_2.1) 0,.iptr (I f_2.2) 0])] [] 1 ?_
 unfold Ja at h
 refine cq 8 [5,6] [.isl false (s_1.map au),.fn 195 [.iptr (aa f_2.1) 0,.iptr (I f_2.2) 0]] 49 ?_
 obtain⟨r3,hr3,h⟩:=bS h
 refine oq 65 (I r3) rfl (bK rfl rfl (b8 rfl rfl rfl (bg (bW rfl) (bg (oZ (dE (f6 rfl) (dE (f6 rfl) gQ))) dj)) (aeo hr3) (.inr rfl) dK rfl rfl rfl)) ?_
 refine cq 3 [4] [B (decide (r3≥0))] 97 ?_
 obtain rfl:=sI h
 exact rP [B (decide (r3≥0))]
theorem UW {G:cb}:b9 G 194 CZ:=gT 2 0 (aN U9 bB) cn Tryz.func194 (fun a r h=>YG a.1 a.2 r h)
def L0:(Contract×Int)→List V:=cA aV (oA I)
def L1 (r:Bool):V×List V:=(B r,[])
noncomputable def JD :=bm [false,false] L0 L1 fun x=>ND x.1 x.2
theorem af3 {c_1:Contract}{i_2:Int}{r}(h:ND c_1 i_2=some r):JD.F (L0 (c_1,i_2))=some (L1 r):=aK (aO bv (aL bf)) h
noncomputable def af5 :=aI Tryz.f183
noncomputable def aba :=cm [(194,CZ)]
def af4 (x:Contract×Int)(r:Bool):St→Prop:=QF aba Tryz.f183 [false,false] (L0 x) (L1 r)
theorem ab0 (c_1:Contract)(i_2:Int)(r:Bool)(h:ND c_1 i_2=some r):bx aba Tryz.f183 [false,false] 0 (L0 (c_1,i_2)) (L1 r):=by
 show Run _ _ (af4 (c_1,i_2) r) [.code af5] _
 refine rI 9 [(0,aa c_1),(1,I i_2)] [] 1 ?_
 unfold ND at h
 refine ck 11 [6,7] [] [1,17] [] [.isl false (c_1.Clauses.map au),.fn 195 [.hp 1 0 [] 2 0 0,.hp 17 0 [] 1 0 0]] [some ⟨0,2,[aa c_1]⟩,some ⟨0,1,[I i_2]⟩] 97 (by kernel_rfl) ?_
 obtain⟨r3,hr3,h⟩:=bS h
 refine oq 113 (B r3) rfl (bK rfl rfl (b8 rfl rfl rfl (bg (bW rfl) (bg (oZ (dE (sY (path:=[]) rfl rfl aF rfl rfl) (dE (sY (path:=[]) rfl rfl aF rfl rfl) gQ))) dj)) (ad9 hr3) (.inl rfl) dK rfl rfl rfl)) ?_
 refine cq 2 [4] [B r3] 129 ?_
 obtain rfl:=sI h
 exact rP [B r3]
theorem ZG {G:cb}:b9 G 183 JD:=gT 2 0 (aN UW bB) cn Tryz.func183 (fun a r h=>ab0 a.1 a.2 r h)
def L7:(Duty×Duty)→List V:=cA ah (oA (fun x:Duty=>.iptr (ah x) 0))
def L8 (r:Bool):V×List V:=(B r,[])
noncomputable def JG :=bm [false,false] L7 L8 fun x=>QB x.1 x.2
theorem aga {ko:Duty}{a_2:Duty}{r}(h:QB ko a_2=some r):JG.F (L7 (ko,a_2))=some (L8 r):=aK (aO eh (aL (nS eh))) h
noncomputable def agc :=aI Tryz.f185
noncomputable def abc :=cm []
def agb (x:Duty×Duty)(r:Bool):St→Prop:=QF abc Tryz.f185 [false,false] (L7 x) (L8 r)
theorem ab4 (ko:Duty)(a_2:Duty)(r:Bool)(h:QB ko a_2=some r):bx abc Tryz.f185 [false,false] 0 (L7 (ko,a_2)) (L8 r):=by
 show Run _ _ (agb (ko,a_2) r) [.code agc] _
 refine rI 9 [(0,ah ko),(1,.iptr (ah a_2) 0)] [] 1 ?_
 unfold QB at h
 refine cq 14 [3] [B (ko.Clause==a_2.Clause)] 129 ?_
 obtain rfl:=sI h
 exact rP [B (ko.Clause==a_2.Clause)]
theorem ZJ {G:cb}:b9 G 185 JG:=gT 2 0 bB cn Tryz.func185 (fun a r h=>ab4 a.1 a.2 r h)
def F7:((List Duty)×Duty)→List V:=cA (gp ah) (oA (fun x:Duty=>(.fn 185 [.iptr (ah x) 0]:V)))
def F8 (r:Int):V×List V:=(I r,[])
noncomputable def C5 :=bm [false,false] F7 F8 fun x=>Jh x.1 x.2
theorem aep {s_1:List Duty}{f_2:Duty}{r}(h:Jh s_1 f_2=some r):C5.F (F7 (s_1,f_2))=some (F8 r):=aK (aO (cr eh) (aL (jo eh))) h
noncomputable def Vb :=aI Tryz.f196
noncomputable def MY :=cm [(185,JG)]
def Va (x:(List Duty)×Duty)(r:Int):St→Prop:=QF MY Tryz.f196 [false,false] (F7 x) (F8 r)
theorem Pr (s_1:List Duty)(f_2:Duty):cg MY 0 (Va (s_1,f_2)) (cL (cL (cR (cL (cR Vb))))) 0 (uT s_1 f_2) (fun u=>(sT 19 [] [] 1)) fun x3=>(sT 19 [(0,.isl false (s_1.map ah)),(1,.fn 185 [.iptr (ah f_2) 0]),(7,I (len s_1)),(8,I x3)] [] 1):=ef (AP s_1 f_2) fun {Q K} hK self ih x3 y h hr hn=>by
 unfold ov at h
 refine cq 5 [9] [B (decide (x3<(len s_1)))] 17 ?_
 refine sq h ?_ ?_<;>intro h
 ·refine aq 1 ?_
  refine cq 12 [5,11,12,13] [I x3,.fn 185 [.iptr (ah f_2) 0],.isl false (s_1.map ah),I x3] 97 ?_
  obtain⟨e4,he4,h⟩:=bS h
  refine oq 113 (.iptr (ah e4) 0) rfl (al rfl rfl rfl (bn rfl rfl rfl rfl he4)) ?_
  refine cq 1 [15] [ah e4] 129 ?_
  obtain⟨r5,hr5,h⟩:=bS h
  refine oq 145 (B r5) rfl (cP (aga hr5)) ?_
  refine aq 1 ?_
  refine sq h ?_ ?_<;>intro h
  ·refine cq 5 [4] [I x3] 177 ?_
   exact ca rfl (hr _ (an h) _ (qp [I x3]))
  ·refine aq 1 ?_
   refine cq 5 [8] [I (ac (x3+1))] 177 ?_
   refine cX ?_
   exact rf [0,1,7,8] [] (ih _ _ h hr hn :)
 ·refine aq 1 ?_
  exact rf [] [] (hn _ (an h) :) (hk:=hK)
theorem YO (s_1:List Duty)(f_2:Duty)(r:Int)(h:Jh s_1 f_2=some r):bx MY Tryz.f196 [false,false] 0 (F7 (s_1,f_2)) (F8 r):=by
 show Run _ _ (Va (s_1,f_2) r) [.code Vb] _
 refine rI 19 [(0,.isl false (s_1.map ah)),(1,.fn 185 [.iptr (ah f_2) 0])] [] 1 ?_
 unfold Jh at h
 refine cq 8 [6] [.isl false (s_1.map ah)] 33 ?_
 refine oq 49 (I (len s_1)) rfl (bw rfl rfl rfl (bR rfl)) ?_
 refine cq 3 [8] [I (0)] 65 ?_
 obtain⟨y6,hy6,hy61,hy62⟩:=bJ h
 refine bM rfl ?_
 refine rf [0,1,7,8] [] (Pr s_1 f_2 rfl 0 _ hy6 (fun r' e st hq=>by rw[hy61 r' e] at hq;exact hq) fun u6 hu=>?_)
 replace h:=hy62 u6 hu
 refine cq 4 [4] [I (-1)] 17 ?_
 obtain rfl:=sI h
 exact rP [I (-1)]
theorem Vc {G:cb}:b9 G 196 C5:=gT 2 0 (aN ZJ bB) cn Tryz.func196 (fun a r h=>YO a.1 a.2 r h)
def FT:((List Duty)×Duty)→List V:=cA (gp ah) (oA (fun x:Duty=>(.fn 185 [.iptr (ah x) 0]:V)))
def FU (r:Bool):V×List V:=(B r,[])
noncomputable def C0 :=bm [false,false] FT FU fun x=>Jb x.1 x.2
theorem aec {s_1:List Duty}{f_2:Duty}{r}(h:Jb s_1 f_2=some r):C0.F (FT (s_1,f_2))=some (FU r):=aK (aO (cr eh) (aL (jo eh))) h
noncomputable def aee :=aI Tryz.f184
noncomputable def UX :=cm [(196,C5)]
def aed (x:(List Duty)×Duty)(r:Bool):St→Prop:=QF UX Tryz.f184 [false,false] (FT x) (FU r)
theorem YH (s_1:List Duty)(f_2:Duty)(r:Bool)(h:Jb s_1 f_2=some r):bx UX Tryz.f184 [false,false] 0 (FT (s_1,f_2)) (FU r):=by
 show Run _ _ (aed (s_1,f_2) r) [.code aee] _
 refine rI 9 [(0,.isl false (s_1.map ah)),(1,.fn 185 [.iptr (ah f_2) 0])] [] 1 ?_
 unfold Jb at h
 refine cq 8 [5,6] [.isl false (s_1.map ah),.fn 185 [.iptr (ah f_2) 0]] 49 ?_
 obtain⟨r3,hr3,h⟩:=bS h
 refine oq 65 (I r3) rfl (bK rfl rfl (b8 rfl rfl rfl (bg (bW rfl) (bg (oZ (dE (f6 rfl) gQ)) dj)) (aep hr3) (.inr rfl) dK rfl rfl rfl)) ?_
 refine cq 3 [4] [B (decide (r3≥0))] 97 ?_
 obtain rfl:=sI h
 exact rP [B (decide (r3≥0))]
theorem UY {G:cb}:b9 G 184 C0:=gT 2 0 (aN Vc bB) cn Tryz.func184 (fun a r h=>YH a.1 a.2 r h)
def L5:(Contract×State×Int)→List V:=cA aV (cA bN (oA I))
def L6 (r:Bool):V×List V:=(B r,[])
noncomputable def JF :=bm [false,false,false] L5 L6 fun x=>NF x.1 x.2.1 x.2.2
theorem af9 {c_1:Contract}{s_2:State}{i_3:Int}{r}(h:NF c_1 s_2 i_3=some r):JF.F (L5 (c_1,s_2,i_3))=some (L6 r):=aK (aO bv (aO cw (aL bf))) h
noncomputable def kG :=aI Tryz.f162
noncomputable def ry :=cm [(99,jF),(183,JD),(184,C0),(78,sb)]
def iD (x:Contract×State×Int)(r:Bool):St→Prop:=QF ry Tryz.f162 [false,false,false] (L5 x) (L6 r)
theorem ab3 (c_1:Contract)(s_2:State)(i_3:Int)(r:Bool)(h:NF c_1 s_2 i_3=some r):bx ry Tryz.f162 [false,false,false] 0 (L5 (c_1,s_2,i_3)) (L6 r):=by
 show Run _ _ (iD (c_1,s_2,i_3) r) [.code kG] _
 refine rI 114 [(0,aa c_1),(1,ai s_2),(2,I i_3)] [] 1 ?_
 unfold NF at h
 refine ck 11 [3,4,9,10] [] [1,17] [] [.hp 1 0 [] 2 0 0,.hp 17 0 [] 5 0 0,.isl false (s_2.Duties.map ah),I i_3] [some ⟨0,2,[aa c_1]⟩,some ⟨0,5,[ai s_2]⟩] 97 (by kernel_rfl) ?_
 obtain⟨e4,he4,h⟩:=bS h
 refine oq 113 (.iptr (ah e4) 0) rfl (al rfl rfl rfl (bn rfl rfl rfl rfl he4)) ?_
 refine ck 11 [7,14,16] [] [129] [] [.hp 129 0 [] 4 0 0,I e4.Clause,.isl false (c_1.Clauses.map au)] [some ⟨0,4,[ah e4]⟩] 225 (by kernel_rfl) ?_
 refine oq 241 (I (len c_1.Clauses)) rfl (bw rfl rfl rfl (bR rfl)) ?_
 refine cq 1 [18] [I (ac ((len c_1.Clauses) - 1))] 257 ?_
 obtain⟨r5,hr5,h⟩:=bS h
 refine oq 273 (B r5) rfl (cP (jq hr5)) ?_
 refine cq 2 [21] [B (!r5)] 305 ?_
 obtain⟨y6,hy6,hy61,hy62⟩:=bJ h
 have j6:∀u6,y6=.inr u6→Run ry 0 (iD (c_1,s_2,i_3) r) (.code (cR (cL (cR (cR kG))))::.code (cR (cR (cR kG)))::[]) (sT 114 [(2,I i_3),(3,.hp 1 0 [] 2 0 0),(4,.hp 2 0 [] 5 0 0),(7,.hp 3 0 [] 4 0 0),(38,B u6)] [⟨0,2,[aa c_1]⟩,⟨0,5,[ai s_2]⟩,⟨0,4,[ah e4]⟩] 4):=by
  intro u6 hu
  replace h:=hy62 u6 hu
  refine sq h ?_ ?_<;>intro h
  ·refine cq 4 [6] [B false] 20 ?_
   obtain rfl:=sI h
   exact rP [B false]
  ·refine aq 1 ?_
   refine aq 2 ?_
   refine d7 [0,1,0,4,0,16,0,64,240,496,1008,2044,4095,8191,16383,32767,65535,131071,262143,524287,1048575,2097151,4194303,8388607,16777215,8388607,41943039,8388607,142606335,511705087,1048575999,2122317823,4294967295,8589934591,17179869183] rfl (by decide +kernel) ?_
   refine dq [3] [] (.hp 3 0 [] 4 0 2) rfl (ay rfl rfl rfl) ?_
   refine dq [3] [] (I e4.Due) rfl (aU rfl rfl) ?_
   refine dq [3] [] (.hp 3 0 [] 4 0 1) rfl (ay rfl rfl rfl) ?_
   refine dq [3] [] (I e4.Since) rfl (aU rfl rfl) ?_
   refine dq [1] [] (.hp 1 0 [] 2 0 1) rfl (ay rfl rfl rfl) ?_
   refine dq [1] [] (.isl false (c_1.Clauses.map au)) rfl (aU rfl rfl) ?_
   refine dq [3] [] (.hp 3 0 [] 4 0 0) rfl (ay rfl rfl rfl) ?_
   refine dq [3] [] (I e4.Clause) rfl (aU rfl rfl) ?_
   obtain⟨e7,he7,h⟩:=bS h
   refine dq [] [] (.iptr (aB e7) 0) rfl (al rfl rfl rfl (bn rfl rfl rfl rfl he7)) ?_
   refine dq [] [] (.iptr (aB e7) 10) rfl (ay rfl rfl rfl) ?_
   refine dq [] [] (I e7.Within) rfl (aU rfl rfl) ?_
   refine dk 3 [52,51,50] [B (e4.Due != (ac (e4.Since+e7.Within))),B (e4.Due != (ac (e4.Since+e7.Within))),I (ac (e4.Since+e7.Within))] ?_
   obtain⟨y8,hy8,hy81,hy82⟩:=bJ h
   have j8:∀u8,y8=.inr u8→Run ry 0 (iD (c_1,s_2,i_3) r) (.code (cR (cL (cR (cR (cR kG)))))::.code (cR (cR (cR (cR kG))))::[]) (sT 114 [(2,I i_3),(3,.hp 1 0 [] 2 0 0),(4,.hp 2 0 [] 5 0 0),(7,.hp 3 0 [] 4 0 0),(73,B u8)] [⟨0,2,[aa c_1]⟩,⟨0,5,[ai s_2]⟩,⟨0,4,[ah e4]⟩] 4):=by
    intro u8 hu
    replace h:=hy82 u8 hu
    refine sq h ?_ ?_<;>intro h
    ·refine cq 4 [6] [B false] 20 ?_
     obtain rfl:=sI h
     exact rP [B false]
    ·refine aq 1 ?_
     refine cq 6 [74,76] [aa c_1,I e4.Clause] 52 ?_
     obtain⟨r9,hr9,h⟩:=bS h
     refine oq 68 (B r9) rfl (cP (af3 hr9)) ?_
     refine cq 2 [79] [B (!r9)] 100 ?_
     obtain⟨y10,hy10,hy101,hy102⟩:=bJ h
     have j10:∀u10,y10=.inr u10→Run ry 0 (iD (c_1,s_2,i_3) r) (.code (cR (cL (cR (cR (cR (cR kG))))))::.code (cR (cR (cR (cR (cR kG)))))::[]) (sT 114 [(4,.hp 1 0 [] 5 0 0),(7,.hp 2 0 [] 4 0 0),(86,B u10)] [⟨0,5,[ai s_2]⟩,⟨0,4,[ah e4]⟩] 3):=by
      intro u10 hu
      replace h:=hy102 u10 hu
      refine sq h ?_ ?_<;>intro h
      ·refine cq 4 [6] [B false] 19 ?_
       obtain rfl:=sI h
       exact rP [B false]
      ·refine aq 1 ?_
       refine cq 12 [88,89] [I e4.Status,B (e4.Status==1)] 67 ?_
       refine sq h ?_ ?_<;>intro h
       ·refine cq 8 [96] [B (decide (e4.Due≥s_2.Day))] 163 ?_
        obtain⟨u11,hu11,h⟩:=lJ h
        have j11:Run ry 0 (iD (c_1,s_2,i_3) r) (.code (cR (cL (cR (cL (cR (cL (cR (cR (cR (cR (cR kG)))))))))))::.blk 0::.code (cR (cR (cR (cR (cR (cR kG))))))::[]) (sT 114 [(6,B u11)] [] 1):=by
         obtain rfl:=sI h
         exact rP [B u11]
        replace h:=hu11
        clear hu11
        refine sp 96 h rfl ?_ ?_<;>intro h
        ·refine cq 6 [6] [B (!s_2.Over)] 243 ?_
         subst h
         exact rf [6] [] (j11 :)
        ·refine cq 6 [6] [B false] 243 ?_
         subst h
         exact rf [6] [] (j11 :)
       ·refine cq 5 [101] [B (e4.Status==2)] 99 ?_
        refine sq h ?_ ?_<;>intro h
        ·refine cq 4 [6] [B true] 115 ?_
         obtain rfl:=sI h
         exact rP [B true]
        ·refine cq 5 [103] [B (e4.Status==3)] 131 ?_
         refine sq h ?_ ?_<;>intro h
         ·refine cq 9 [6] [B (decide (e4.Due<s_2.Day))] 227 ?_
          obtain rfl:=sI h
          exact rP [B (decide (e4.Due<s_2.Day))]
         ·refine cq 5 [110] [B (e4.Status==4)] 163 ?_
          refine sq h ?_ ?_<;>intro h
          ·refine cq 6 [6] [B s_2.Over] 211 ?_
           obtain rfl:=sI h
           exact rP [B s_2.Over]
          ·refine aq 1 ?_
           refine cq 5 [6] [B false] 179 ?_
           obtain rfl:=sI h
           exact rP [B false]
     have r10:∀r',y10=.inl r'→∀st,iD (c_1,s_2,i_3) r' st→(iD (c_1,s_2,i_3) r) st:=fun r' e st hq=>by rw[hy101 r' e] at hq;exact hq
     replace h:=hy10
     refine sp 79 h rfl ?_ ?_<;>intro h
     ·refine cq 3 [81,82] [.isl false (s_2.Duties.map ah),I i_3] 148 ?_
      obtain⟨s12,hs12,h⟩:=bS h
      refine oy 164 (.isl false (s12.map ah)) rfl (iG rfl rfl rfl rfl (zw rfl rfl (fun y=>(JQ y).1) rfl rfl hs12)) ?_
      refine cq 1 [84] [.fn 185 [.hp 3 0 [] 4 0 0]] 180 ?_
      obtain⟨r13,hr13,h⟩:=bS h
      refine oy 196 (B r13) rfl (bK rfl rfl (b8 rfl rfl rfl (bg (bW rfl) (bg (oZ (dE (sY (path:=[]) rfl rfl aF rfl rfl) gQ)) dj)) (aec hr13) (.inl rfl) dK rfl rfl rfl)) ?_
      refine cq 2 [86] [B r13] 212 ?_
      exact rf [4,7,86] [2,3] (j10 _ (an h) :)
     ·refine cq 8 [86] [B false] 212 ?_
      exact rf [4,7,86] [2,3] (j10 _ (an h) :)
   have r8:∀r',y8=.inl r'→∀st,iD (c_1,s_2,i_3) r' st→(iD (c_1,s_2,i_3) r) st:=fun r' e st hq=>by rw[hy81 r' e] at hq;exact hq
   replace h:=hy8
   refine sp 52 h rfl ?_ ?_<;>intro h
   ·refine dk 21 [73,72,71,70,69,68,67,66,65,64,63,62,61,60,59,58,57,56,55,54,53] [B true,.und,.und,.und,.und,.und,.und,.und,.und,.und,.und,.und,.und,.und,.und,B true,B true,.und,.und,.und,.und] ?_
    refine de 564 rfl rfl ?_
    exact rf [2,3,4,7,73] [1,2,3] (j8 _ (an h) :)
   ·refine dy [3] [] (.hp 3 0 [] 4 0 2) rfl (ay rfl rfl rfl) ?_
    refine dy [3] [] (I e4.Due) rfl (aU rfl rfl) ?_
    obtain⟨r14,hr14,h⟩:=bS h
    refine dy [] [] (B r14) rfl (cP (tv hr14)) ?_ (dZ rfl rfl rfl rfl (bg (bW rfl) dj) (tv hr14) (.inr rfl) rfl)
    refine dk 3 [58,57,56] [B (!r14),B (!r14),B (!r14)] ?_
    obtain⟨y15,hy15,hy151,hy152⟩:=bL h
    have j15:∀u15,y15=.inr u15→Run ry 0 (iD (c_1,s_2,i_3) r) (.code (cR (cL (cR (cR (cR kG)))))::.code (cR (cR (cR (cR kG))))::[]) (sT 114 [(2,I i_3),(3,.hp 1 0 [] 2 0 0),(4,.hp 2 0 [] 5 0 0),(7,.hp 3 0 [] 4 0 0),(73,B u15)] [⟨0,2,[aa c_1]⟩,⟨0,5,[ai s_2]⟩,⟨0,4,[ah e4]⟩] 4):=by
     intro u15 hu
     replace h:=hy152 u15 hu
     exact rf [2,3,4,7,73] [1,2,3] (j8 _ (an h) :)
    have r15:∀r',y15=.inl r'→∀st,iD (c_1,s_2,i_3) r' st→(iD (c_1,s_2,i_3) r) st:=fun r' e st hq=>r8 r' (hy151 r' e) st hq
    replace h:=hy15
    refine sp 58 h rfl ?_ ?_<;>intro h
    ·refine dk 15 [73,72,71,70,69,68,67,66,65,64,63,62,61,60,59] [B true,.und,.und,.und,.und,.und,.und,.und,.und,.und,.und,.und,.und,.und,.und] ?_
     refine de 564 rfl rfl ?_
     exact rf [2,3,4,7,73] [1,2,3] (j15 _ (an h) :)
    ·refine dk 3 [61,60,59] [B (decide (i_3>0)),B (decide (i_3>0)),I i_3] ?_
     obtain⟨y16,hy16,hy161,hy162⟩:=bL h
     have j16:∀u16,y16=.inr u16→Run ry 0 (iD (c_1,s_2,i_3) r) (.code (cR (cL (cR (cR (cR kG)))))::.code (cR (cR (cR (cR kG))))::[]) (sT 114 [(2,I i_3),(3,.hp 1 0 [] 2 0 0),(4,.hp 2 0 [] 5 0 0),(7,.hp 3 0 [] 4 0 0),(73,B u16)] [⟨0,2,[aa c_1]⟩,⟨0,5,[ai s_2]⟩,⟨0,4,[ah e4]⟩] 4):=by
      intro u16 hu
      replace h:=hy162 u16 hu
      exact rf [2,3,4,7,73] [1,2,3] (j15 _ (an h) :)
     have r16:∀r',y16=.inl r'→∀st,iD (c_1,s_2,i_3) r' st→(iD (c_1,s_2,i_3) r) st:=fun r' e st hq=>r15 r' (hy161 r' e) st hq
     replace h:=hy16
     refine sp 61 h rfl ?_ ?_<;>intro h
     ·refine dy [3] [] (.hp 3 0 [] 4 0 1) rfl (ay rfl rfl rfl) ?_
      refine dy [3] [] (I e4.Since) rfl (aU rfl rfl) ?_
      refine dy [2] [] (.hp 2 0 [] 5 0 2) rfl (ay rfl rfl rfl) ?_
      refine dy [2] [] (.isl false (s_2.Duties.map ah)) rfl (aU rfl rfl) ?_
      refine dk 2 [67,66] [I (ac (i_3 - 1)),I i_3] ?_
      obtain⟨e17,he17,h⟩:=bS h
      refine dy [] [] (.iptr (ah e17) 0) rfl (al rfl rfl rfl (bn rfl rfl rfl rfl he17)) ?_
      refine dy [] [] (.iptr (ah e17) 1) rfl (ay rfl rfl rfl) ?_
      refine dy [] [] (I e17.Since) rfl (aU rfl rfl) ?_
      refine dk 3 [73,72,71] [B (decide (e4.Since<e17.Since)),B (decide (e4.Since<e17.Since)),B (decide (e4.Since<e17.Since))] ?_
      refine de 564 rfl rfl ?_
      exact rf [2,3,4,7,73] [1,2,3] (j16 _ (an h) :)
     ·refine dk 12 [73,72,71,70,69,68,67,66,65,64,63,62] [B false,B false,.und,.und,.und,.und,.und,.und,.und,.und,.und,.und] ?_
      refine de 564 rfl rfl ?_
      exact rf [2,3,4,7,73] [1,2,3] (j16 _ (an h) :)
 have r6:∀r',y6=.inl r'→∀st,iD (c_1,s_2,i_3) r' st→(iD (c_1,s_2,i_3) r) st:=fun r' e st hq=>by rw[hy61 r' e] at hq;exact hq
 replace h:=hy6
 refine sp 21 h rfl ?_ ?_<;>intro h
 ·refine cq 18 [38] [B true] 577 ?_
  exact rf [2,3,4,7,38] [1,17,129] (j6 _ (an h) :)
 ·refine cq 4 [23,25] [.isl false (c_1.Clauses.map au),I e4.Clause] 369 ?_
  obtain⟨e18,he18,h⟩:=bS h
  refine oy 385 (.iptr (aB e18) 0) rfl (al rfl rfl rfl (bn rfl rfl rfl rfl he18)) ?_
  refine cq 5 [31] [B (e18.Kind != 1)] 465 ?_
  obtain⟨y19,hy19,hy191,hy192⟩:=bL h
  have j19:∀u19,y19=.inr u19→Run ry 0 (iD (c_1,s_2,i_3) r) (.code (cR (cL (cR (cR kG))))::.code (cR (cR (cR kG)))::[]) (sT 114 [(2,I i_3),(3,.hp 1 0 [] 2 0 0),(4,.hp 2 0 [] 5 0 0),(7,.hp 3 0 [] 4 0 0),(38,B u19)] [⟨0,2,[aa c_1]⟩,⟨0,5,[ai s_2]⟩,⟨0,4,[ah e4]⟩] 4):=by
   intro u19 hu
   replace h:=hy192 u19 hu
   exact rf [2,3,4,7,38] [1,2,3] (j6 _ (an h) :)
  have r19:∀r',y19=.inl r'→∀st,iD (c_1,s_2,i_3) r' st→(iD (c_1,s_2,i_3) r) st:=fun r' e st hq=>r6 r' (hy191 r' e) st hq
  replace h:=hy19
  refine sp 31 h rfl ?_ ?_<;>intro h
  ·refine cq 8 [38] [B true] 577 ?_
   exact rf [2,3,4,7,38] [1,17,129] (j19 _ (an h) :)
  ·refine cq 4 [33,35] [I e4.Since,I s_2.Day] 529 ?_
   obtain⟨r20,hr20,h⟩:=bS h
   refine oy 545 (B r20) rfl (cP (jq hr20)) ?_
   refine cq 3 [38] [B (!r20)] 577 ?_
   exact rf [2,3,4,7,38] [1,17,129] (j19 _ (an h) :)
theorem ZI {G:cb}:b9 G 162 JF:=gT 3 0 (aN kt (aN ZG (aN UY (aN wx bB)))) cn Tryz.func162 (fun a r h=>ab3 a.1 a.2.1 a.2.2 r h)
def LU:Int→List V:=oA I
def LV (r:Bool):V×List V:=(B r,[])
noncomputable def JB :=bm [false] LU LV fun x=>QA x
theorem afX {x_1:Int}{r}(h:QA x_1=some r):JB.F (LU x_1)=some (LV r):=aK (aL bf) h
noncomputable def afZ :=aI Tryz.f164
noncomputable def aa8 :=cm [(99,jF)]
def afY (x:Int)(r:Bool):St→Prop:=QF aa8 Tryz.f164 [false] (LU x) (LV r)
theorem abX (x_1:Int)(r:Bool)(h:QA x_1=some r):bx aa8 Tryz.f164 [false] 0 (LU x_1) (LV r):=by
 show Run _ _ (afY x_1 r) [.code afZ] _
 refine rI 5 [(0,I x_1)] [] 1 ?_
 unfold QA at h
 refine cq 7 [3] [I x_1] 33 ?_
 obtain⟨r2,hr2,h⟩:=bS h
 refine oq 49 (B r2) rfl (cP (jq hr2)) ?_
 refine cq 2 [2] [B r2] 65 ?_
 obtain rfl:=sI h
 exact rP [B r2]
theorem ZE {G:cb}:b9 G 164 JB:=gT 1 0 (aN kt bB) cn Tryz.func164 (fun a r h=>abX a r h)
def Em:Int→List V:=oA I
def En (r:Bool):V×List V:=(B r,[])
noncomputable def B1 :=bm [false] Em En fun x=>B0 x
theorem acY {b_1:Int}{r}(h:B0 b_1=some r):B1.F (Em b_1)=some (En r):=aK (aL bf) h
noncomputable def ac0 :=aI Tryz.f163
noncomputable def SY :=cm [(164,JB)]
def acZ (x:Int)(r:Bool):St→Prop:=QF SY Tryz.f163 [false] (Em x) (En r)
theorem XQ (b_1:Int)(r:Bool)(h:B0 b_1=some r):bx SY Tryz.f163 [false] 0 (Em b_1) (En r):=by
 show Run _ _ (acZ b_1 r) [.code ac0] _
 refine rI 6 [(0,I b_1)] [] 1 ?_
 unfold B0 at h
 refine cq 7 [3] [I b_1] 33 ?_
 obtain⟨r2,hr2,h⟩:=bS h
 refine oq 49 (B r2) rfl (cP (afX hr2)) ?_
 refine cq 3 [2] [B (!r2)] 81 ?_
 obtain rfl:=sI h
 exact rP [B (!r2)]
theorem SZ {G:cb}:b9 G 163 B1:=gT 1 0 (aN ZE bB) cn Tryz.func163 (fun a r h=>XQ a r h)
def F9:((List Int)×Unit)→List V:=cA (gp I) (oA (fun x:Unit=>(.fn 163 []:V)))
def Ga (r:Int):V×List V:=(I r,[])
noncomputable def C6 :=bm [false,false] F9 Ga fun x=>Ji x.1 x.2
theorem aeq {s_1:List Int}{f_2:Unit}{r}(h:Ji s_1 f_2=some r):C6.F (F9 (s_1,f_2))=some (Ga r):=aK (aO (cr bf) (aL (QK ))) h
noncomputable def Ve :=aI Tryz.f153
noncomputable def MZ :=cm [(163,B1)]
def Vd (x:(List Int)×Unit)(r:Int):St→Prop:=QF MZ Tryz.f153 [false,false] (F9 x) (Ga r)
theorem Ps (s_1:List Int)(f_2:Unit):cg MZ 0 (Vd (s_1,f_2)) (cL (cL (cR (cL (cR Ve))))) 0 (uU s_1 f_2) (fun u=>(sT 19 [] [] 1)) fun x3=>(sT 19 [(0,.isl false (s_1.map I)),(1,.fn 163 []),(7,I (len s_1)),(8,I x3)] [] 1):=ef (AQ s_1 f_2) fun {Q K} hK self ih x3 y h hr hn=>by
 unfold ow at h
 refine cq 5 [9] [B (decide (x3<(len s_1)))] 17 ?_
 refine sq h ?_ ?_<;>intro h
 ·refine aq 1 ?_
  refine cq 12 [5,11,12,13] [I x3,.fn 163 [],.isl false (s_1.map I),I x3] 97 ?_
  obtain⟨e4,he4,h⟩:=bS h
  refine oq 113 (.iptr (I e4) 0) rfl (al rfl rfl rfl (bn rfl rfl rfl rfl he4)) ?_
  refine cq 1 [15] [I e4] 129 ?_
  obtain⟨r5,hr5,h⟩:=bS h
  refine oq 145 (B r5) rfl (cP (acY hr5)) ?_
  refine aq 1 ?_
  refine sq h ?_ ?_<;>intro h
  ·refine cq 5 [4] [I x3] 177 ?_
   exact ca rfl (hr _ (an h) _ (qp [I x3]))
  ·refine aq 1 ?_
   refine cq 5 [8] [I (ac (x3+1))] 177 ?_
   refine cX ?_
   exact rf [0,1,7,8] [] (ih _ _ h hr hn :)
 ·refine aq 1 ?_
  exact rf [] [] (hn _ (an h) :) (hk:=hK)
theorem YP (s_1:List Int)(f_2:Unit)(r:Int)(h:Ji s_1 f_2=some r):bx MZ Tryz.f153 [false,false] 0 (F9 (s_1,f_2)) (Ga r):=by
 show Run _ _ (Vd (s_1,f_2) r) [.code Ve] _
 refine rI 19 [(0,.isl false (s_1.map I)),(1,.fn 163 [])] [] 1 ?_
 unfold Ji at h
 refine cq 8 [6] [.isl false (s_1.map I)] 33 ?_
 refine oq 49 (I (len s_1)) rfl (bw rfl rfl rfl (bR rfl)) ?_
 refine cq 3 [8] [I (0)] 65 ?_
 obtain⟨y6,hy6,hy61,hy62⟩:=bJ h
 refine bM rfl ?_
 refine rf [0,1,7,8] [] (Ps s_1 f_2 rfl 0 _ hy6 (fun r' e st hq=>by rw[hy61 r' e] at hq;exact hq) fun u6 hu=>?_)
 replace h:=hy62 u6 hu
 refine cq 4 [4] [I (-1)] 17 ?_
 obtain rfl:=sI h
 exact rP [I (-1)]
theorem Vf {G:cb}:b9 G 153 C6:=gT 2 0 (aN SZ bB) cn Tryz.func153 (fun a r h=>YP a.1 a.2 r h)
def FV:((List Int)×Unit)→List V:=cA (gp I) (oA (fun x:Unit=>(.fn 163 []:V)))
def FW (r:Bool):V×List V:=(B r,[])
noncomputable def C1 :=bm [false,false] FV FW fun x=>Jc x.1 x.2
theorem aef {s_1:List Int}{f_2:Unit}{r}(h:Jc s_1 f_2=some r):C1.F (FV (s_1,f_2))=some (FW r):=aK (aO (cr bf) (aL (QK ))) h
noncomputable def aeh :=aI Tryz.f115
noncomputable def UZ :=cm [(153,C6)]
def aeg (x:(List Int)×Unit)(r:Bool):St→Prop:=QF UZ Tryz.f115 [false,false] (FV x) (FW r)
theorem YI (s_1:List Int)(f_2:Unit)(r:Bool)(h:Jc s_1 f_2=some r):bx UZ Tryz.f115 [false,false] 0 (FV (s_1,f_2)) (FW r):=by
 show Run _ _ (aeg (s_1,f_2) r) [.code aeh] _
 refine rI 9 [(0,.isl false (s_1.map I)),(1,.fn 163 [])] [] 1 ?_
 unfold Jc at h
 refine cq 8 [5,6] [.isl false (s_1.map I),.fn 163 []] 49 ?_
 obtain⟨r3,hr3,h⟩:=bS h
 refine oq 65 (I r3) rfl (cP (aeq hr3)) ?_
 refine cq 3 [4] [B (decide (r3≥0))] 97 ?_
 obtain rfl:=sI h
 exact rP [B (decide (r3≥0))]
theorem U0 {G:cb}:b9 G 115 C1:=gT 2 0 (aN Vf bB) cn Tryz.func115 (fun a r h=>YI a.1 a.2 r h)
def Mc:(Contract×State)→List V:=cA aV (oA bN)
def Md (r:Bool):V×List V:=(B r,[])
noncomputable def JI :=bm [false,false] Mc Md fun x=>NH x.1 x.2
theorem age {c_1:Contract}{s_2:State}{r}(h:NH c_1 s_2=some r):JI.F (Mc (c_1,s_2))=some (Md r):=aK (aO bv (aL cw)) h
noncomputable def qs :=aI Tryz.f127
noncomputable def wy :=cm [(101,zO),(78,sb),(162,JF),(115,C1),(161,B4),(158,JH),(159,C2)]
def lE (x:Contract×State)(r:Bool):St→Prop:=QF wy Tryz.f127 [false,false] (Mc x) (Md r)
theorem RU (c_1:Contract)(s_2:State):cg wy 0 (lE (c_1,s_2)) (cL (cL (cR (cL (cR (cR (cR (cR qs)))))))) 0 (qO c_1 s_2) (fun u=>(sT 60 [(3,.hp 1 0 [] 5 0 0)] [⟨0,5,[ai s_2]⟩] 2)) fun x7=>(sT 60 [(2,.hp 1 0 [] 2 0 0),(3,.hp 2 0 [] 5 0 0),(46,I (len s_2.Duties)),(47,I x7)] [⟨0,2,[aa c_1]⟩,⟨0,5,[ai s_2]⟩] 3):=ef (H4 c_1 s_2) fun {Q K} hK self ih x7 y h hr hn=>by
 unfold nO at h
 refine cq 5 [48] [B (decide (x7<(len s_2.Duties)))] 19 ?_
 refine sq h ?_ ?_<;>intro h
 ·refine aq 1 ?_
  refine cq 12 [50,51,52] [aa c_1,ai s_2,I x7] 99 ?_
  obtain⟨r8,hr8,h⟩:=bS h
  refine oq 115 (B r8) rfl (cP (af9 hr8)) ?_
  refine cq 2 [54] [B (!r8)] 131 ?_
  refine sq h ?_ ?_<;>intro h
  ·refine cq 4 [4] [B false] 147 ?_
   exact ca rfl (hr _ (an h) _ (qp [B false]))
  ·refine aq 1 ?_
   refine cq 5 [47] [I (ac (x7+1))] 163 ?_
   refine cX ?_
   exact rf [2,3,46,47] [1,2] (ih _ _ h hr hn :)
 ·refine aq 1 ?_
  exact rf [3] [2] (hn _ (an h) :) (hk:=hK)
theorem ab6 (c_1:Contract)(s_2:State)(r:Bool)(h:NH c_1 s_2=some r):bx wy Tryz.f127 [false,false] 0 (Mc (c_1,s_2)) (Md r):=by
 show Run _ _ (lE (c_1,s_2) r) [.code qs] _
 refine rI 60 [(0,aa c_1),(1,ai s_2)] [] 1 ?_
 unfold NH at h
 refine ck 9 [2,3,7] [] [1,17] [] [.hp 1 0 [] 2 0 0,.hp 17 0 [] 5 0 0,aa c_1] [some ⟨0,2,[aa c_1]⟩,some ⟨0,5,[ai s_2]⟩] 65 (by kernel_rfl) ?_
 obtain⟨r3,hr3,h⟩:=bS h
 refine oq 81 (.hs 65 0 [] 1 0 (r3.map str).length) rfl (cP (aa5 hr3)) ?_
 refine ck 1 [5] [] [81] [] [.hp 81 0 [] 1 0 0] [some ⟨0,1,[.isl true []]⟩] 97 (by kernel_rfl) ?_
 refine gk 81 [.usl 1 (([]).map str)] rfl rfl (aQ (.nil _) fh) ?_
 refine o0 113 rfl rfl (et rfl rfl (dF (path:=[]) (pl:=false) (e':=.usl 1 (r3.map str)) (es2':=[.usl 1 (r3.map str)]) rfl (gi rfl (dx rfl rfl)) rfl rfl rfl aF rfl rfl rfl rfl rfl cJ 2 rfl)) ?_
 refine cq 6 [10] [I s_2.Day] 145 ?_
 obtain⟨r4,hr4,h⟩:=bS h
 refine oq 161 (B r4) rfl (cP (tv hr4)) ?_
 refine cq 2 [13] [B (!r4)] 193 ?_
 obtain⟨y5,hy5,hy51,hy52⟩:=bJ h
 have j5:∀u5,y5=.inr u5→Run wy 0 (lE (c_1,s_2) r) (.code (cR (cL (cR (cR qs))))::.code (cR (cR (cR qs)))::[]) (sT 60 [(2,.hp 1 0 [] 2 0 0),(3,.hp 2 0 [] 5 0 0),(24,B u5)] [⟨0,2,[aa c_1]⟩,⟨0,5,[ai s_2]⟩] 3):=by
  intro u5 hu
  replace h:=hy52 u5 hu
  refine sq h ?_ ?_<;>intro h
  ·refine cq 4 [4] [B false] 19 ?_
   obtain rfl:=sI h
   exact rP [B false]
  ·refine aq 1 ?_
   refine cq 5 [26] [.isl false (s_2.Duties.map ah)] 35 ?_
   refine oq 51 (I (len s_2.Duties)) rfl (bw rfl rfl rfl (bR rfl)) ?_
   refine cq 2 [29] [B (decide ((len s_2.Duties)>24))] 83 ?_
   obtain⟨y6,hy6,hy61,hy62⟩:=bJ h
   have j6:∀u6,y6=.inr u6→Run wy 0 (lE (c_1,s_2) r) (.code (cR (cL (cR (cR (cR qs)))))::.code (cR (cR (cR (cR qs))))::[]) (sT 60 [(2,.hp 1 0 [] 2 0 0),(3,.hp 2 0 [] 5 0 0),(43,B u6)] [⟨0,2,[aa c_1]⟩,⟨0,5,[ai s_2]⟩] 3):=by
    intro u6 hu
    replace h:=hy62 u6 hu
    refine sq h ?_ ?_<;>intro h
    ·refine cq 4 [4] [B false] 19 ?_
     obtain rfl:=sI h
     exact rP [B false]
    ·refine aq 1 ?_
     refine cq 5 [45] [.isl false (s_2.Duties.map ah)] 35 ?_
     refine oq 51 (I (len s_2.Duties)) rfl (bw rfl rfl rfl (bR rfl)) ?_
     refine cq 3 [47] [I (0)] 67 ?_
     obtain⟨y9,hy9,hy91,hy92⟩:=bJ h
     refine bM rfl ?_
     refine rf [2,3,46,47] [1,2] (RU c_1 s_2 rfl 0 _ hy9 (fun r' e st hq=>by rw[hy91 r' e] at hq;exact hq) fun u9 hu=>?_)
     replace h:=hy92 u9 hu
     refine cq 4 [57] [.isl false (s_2.Balances.map I)] 34 ?_
     obtain⟨r10,hr10,h⟩:=bS h
     refine oq 50 (B r10) rfl (cP (aef hr10)) ?_
     refine cq 3 [4] [B (!r10)] 82 ?_
     obtain rfl:=sI h
     exact rP [B (!r10)]
   have r6:∀r',y6=.inl r'→∀st,lE (c_1,s_2) r' st→(lE (c_1,s_2) r) st:=fun r' e st hq=>by rw[hy61 r' e] at hq;exact hq
   replace h:=hy6
   refine sp 29 h rfl ?_ ?_<;>intro h
   ·refine cq 15 [43] [B true] 307 ?_
    exact rf [2,3,43] [1,2] (j6 _ (an h) :)
   ·refine cq 2 [31] [.isl false (s_2.Balances.map I)] 115 ?_
    refine oy 131 (I (len s_2.Balances)) rfl (bw rfl rfl rfl (bR rfl)) ?_
    refine cq 2 [34] [.isl false (c_1.Parties.map str)] 163 ?_
    refine oy 179 (I (len c_1.Parties)) rfl (bw rfl rfl rfl (bR rfl)) ?_
    refine cq 3 [38] [B ((len s_2.Balances) != (len c_1.Parties))] 227 ?_
    obtain⟨y11,hy11,hy111,hy112⟩:=bL h
    have j11:∀u11,y11=.inr u11→Run wy 0 (lE (c_1,s_2) r) (.code (cR (cL (cR (cR (cR qs)))))::.code (cR (cR (cR (cR qs))))::[]) (sT 60 [(2,.hp 1 0 [] 2 0 0),(3,.hp 2 0 [] 5 0 0),(43,B u11)] [⟨0,2,[aa c_1]⟩,⟨0,5,[ai s_2]⟩] 3):=by
     intro u11 hu
     replace h:=hy112 u11 hu
     exact rf [2,3,43] [1,2] (j6 _ (an h) :)
    have r11:∀r',y11=.inl r'→∀st,lE (c_1,s_2) r' st→(lE (c_1,s_2) r) st:=fun r' e st hq=>r6 r' (hy111 r' e) st hq
    replace h:=hy11
    refine sp 38 h rfl ?_ ?_<;>intro h
    ·refine cq 6 [43] [B true] 307 ?_
     exact rf [2,3,43] [1,2] (j11 _ (an h) :)
    ·refine cq 2 [40] [.isl false (s_2.Balances.map I)] 259 ?_
     obtain⟨r12,hr12,h⟩:=bS h
     refine oy 275 (I r12) rfl (cP (ac4 hr12)) ?_
     refine cq 3 [43] [B (r12 != 0)] 307 ?_
     exact rf [2,3,43] [1,2] (j11 _ (an h) :)
 have r5:∀r',y5=.inl r'→∀st,lE (c_1,s_2) r' st→(lE (c_1,s_2) r) st:=fun r' e st hq=>by rw[hy51 r' e] at hq;exact hq
 replace h:=hy5
 refine sp 13 h rfl ?_ ?_<;>intro h
 ·refine cq 12 [24] [B true] 369 ?_
  exact rf [2,3,24] [1,17] (j5 _ (an h) :)
 ·refine cq 2 [15] [.isl false (s_2.Facts.map str)] 225 ?_
  obtain⟨r13,hr13,h⟩:=bS h
  refine oy 241 (B r13) rfl (cP (agd hr13)) ?_
  refine cq 3 [19] [B (!r13)] 289 ?_
  obtain⟨y14,hy14,hy141,hy142⟩:=bL h
  have j14:∀u14,y14=.inr u14→Run wy 0 (lE (c_1,s_2) r) (.code (cR (cL (cR (cR qs))))::.code (cR (cR (cR qs)))::[]) (sT 60 [(2,.hp 1 0 [] 2 0 0),(3,.hp 2 0 [] 5 0 0),(24,B u14)] [⟨0,2,[aa c_1]⟩,⟨0,5,[ai s_2]⟩] 3):=by
   intro u14 hu
   replace h:=hy142 u14 hu
   exact rf [2,3,24] [1,2] (j5 _ (an h) :)
  have r14:∀r',y14=.inl r'→∀st,lE (c_1,s_2) r' st→(lE (c_1,s_2) r) st:=fun r' e st hq=>r5 r' (hy141 r' e) st hq
  replace h:=hy14
  refine sp 19 h rfl ?_ ?_<;>intro h
  ·refine cq 6 [24] [B true] 369 ?_
   exact rf [2,3,24] [1,17] (j14 _ (an h) :)
  ·refine cq 3 [21,22] [.isl false (s_2.Facts.map str),.fn 160 [.hp 81 0 [] 1 0 0]] 337 ?_
   obtain⟨r15,hr15,h⟩:=bS h
   refine oy 353 (B r15) rfl (bK rfl rfl (b8 rfl rfl rfl (bg (bW rfl) (bg (oZ (dE (sY (path:=[]) rfl rfl aF rfl (abl (bT fI))) gQ)) dj)) (aei hr15) (.inl rfl) dK rfl rfl rfl)) ?_
   refine cq 2 [24] [B r15] 369 ?_
   exact rf [2,3,24] [1,17] (j14 _ (an h) :)
theorem ZL {G:cb}:b9 G 127 JI:=gT 2 0 (aN Nz (aN wx (aN ZI (aN U0 (aN S4 (aN ZK (aN U2 bB))))))) cn Tryz.func127 (fun a r h=>ab6 a.1 a.2 r h)
def Lx:(Contract×State)→List V:=cA aV (oA bN)
def Lz (r:Bool):V×List V:=(B r,[])
noncomputable def Js :=bm [false,false] Lx Lz fun x=>Ko x.1 x.2
theorem afK {c_1:Contract}{s_2:State}{r}(h:Ko c_1 s_2=some r):Js.F (Lx (c_1,s_2))=some (Lz r):=aK (aO bv (aL cw)) h
noncomputable def aaW :=aI Tryz.f77
noncomputable def RH :=cm [(47,Je),(127,JI)]
def Ly (x:Contract×State)(r:Bool):St→Prop:=QF RH Tryz.f77 [false,false] (Lx x) (Lz r)
theorem abK (c_1:Contract)(s_2:State)(r:Bool)(h:Ko c_1 s_2=some r):bx RH Tryz.f77 [false,false] 0 (Lx (c_1,s_2)) (Lz r):=by
 show Run _ _ (Ly (c_1,s_2) r) [.code aaW] _
 refine rI 12 [(0,aa c_1),(1,ai s_2)] [] 1 ?_
 unfold Ko at h
 refine ck 9 [2,3,5] [] [1,17] [] [.hp 1 0 [] 2 0 0,.hp 17 0 [] 5 0 0,aa c_1] [some ⟨0,2,[aa c_1]⟩,some ⟨0,5,[ai s_2]⟩] 65 (by kernel_rfl) ?_
 obtain⟨r3,hr3,h⟩:=bS h
 refine oq 81 (B r3) rfl (cP (afJ hr3)) ?_
 refine cq 1 [7] [B r3] 97 ?_
 obtain⟨y4,hy4,hy41,hy42⟩:=bJ h
 have j4:∀u4,y4=.inr u4→Run RH 0 (Ly (c_1,s_2) r) (.code (cR (cR aaW))::[]) (sT 12 [(4,B u4)] [] 1):=by
  intro u4 hu
  replace h:=hy42 u4 hu
  obtain rfl:=sI h
  exact rP [B u4]
 have r4:∀r',y4=.inl r'→∀st,Ly (c_1,s_2) r' st→(Ly (c_1,s_2) r) st:=fun r' e st hq=>by rw[hy41 r' e] at hq;exact hq
 replace h:=hy4
 refine sp 7 h rfl ?_ ?_<;>intro h
 ·refine cq 2 [8,9] [aa c_1,ai s_2] 129 ?_
  obtain⟨r5,hr5,h⟩:=bS h
  refine oy 145 (B r5) rfl (cP (age hr5)) ?_
  refine cq 3 [4] [B r5] 177 ?_
  exact rf [4] [] (j4 _ (an h) :)
 ·refine cq 6 [4] [B false] 177 ?_
  exact rf [4] [] (j4 _ (an h) :)
theorem Zv {G:cb}:b9 G 77 Js:=gT 2 0 (aN YK (aN ZL bB)) cn Tryz.func77 (fun a r h=>abK a.1 a.2 r h)
def LD:(Duty×Clause×Int)→List V:=cA ah (cA au (oA (fun x:Int=>.iptr (I x) 0)))
def LE (r:Bool):V×List V:=(B r,[])
noncomputable def Ju :=bm [false,false,false] LD LE fun x=>Qz x.1 x.2.1 x.2.2
theorem aaY {d_1:Duty}{x_2:Clause}{a_3:Int}{r}(h:Qz d_1 x_2 a_3=some r):Ju.F (LD (d_1,x_2,a_3))=some (LE r):=aK (aO eh (aO dU (aL (nS bf)))) h
noncomputable def afM :=aI Tryz.f79
noncomputable def aaX :=cm []
def afL (x:Duty×Clause×Int)(r:Bool):St→Prop:=QF aaX Tryz.f79 [false,false,false] (LD x) (LE r)
theorem abM (d_1:Duty)(x_2:Clause)(a_3:Int)(r:Bool)(h:Qz d_1 x_2 a_3=some r):bx aaX Tryz.f79 [false,false,false] 0 (LD (d_1,x_2,a_3)) (LE r):=by
 show Run _ _ (afL (d_1,x_2,a_3) r) [.code afM] _
 refine rI 10 [(0,ah d_1),(1,aB x_2),(2,.iptr (I a_3) 0)] [] 1 ?_
 unfold Qz at h
 refine cq 14 [5] [B (decide (d_1.Due<a_3))] 129 ?_
 obtain rfl:=sI h
 exact rP [B (decide (d_1.Due<a_3))]
theorem Zx {G:cb}:b9 G 79 Ju:=gT 3 0 bB cn Tryz.func79 (fun a r h=>abM a.1 a.2.1 a.2.2 r h)
def Ll:Int→List V:=oA I
def Lm (r:Bool):V×List V:=(B r,[])
noncomputable def I5 :=bm [false] Ll Lm fun x=>Mo x
theorem aaU {x_1:Int}{r}(h:Mo x_1=some r):I5.F (Ll x_1)=some (Lm r):=aK (aL bf) h
noncomputable def afF :=aI Tryz.f155
noncomputable def aaT :=cm []
def afE (x:Int)(r:Bool):St→Prop:=QF aaT Tryz.f155 [false] (Ll x) (Lm r)
theorem abu (x_1:Int)(r:Bool)(h:Mo x_1=some r):bx aaT Tryz.f155 [false] 0 (Ll x_1) (Lm r):=by
 show Run _ _ (afE x_1 r) [.code afF] _
 refine rI 6 [(0,I x_1)] [] 1 ?_
 unfold Mo at h
 refine cq 11 [2] [B (x_1 != x_1)] 81 ?_
 obtain rfl:=sI h
 exact rP [B (x_1 != x_1)]
theorem XP {G:cb}:b9 G 155 I5:=gT 1 0 bB cn Tryz.func155 (fun a r h=>abu a r h)
def Li:(Int×Int)→List V:=cA I (oA I)
def Lj (r:Int):V×List V:=(I r,[])
noncomputable def I4 :=bm [false,false] Li Lj fun x=>Mn x.1 x.2
theorem aaS {x_1:Int}{y_2:Int}{r}(h:Mn x_1 y_2=some r):I4.F (Li (x_1,y_2))=some (Lj r):=aK (aO bf (aL bf)) h
noncomputable def afD :=aI Tryz.f119
noncomputable def aaR :=cm [(155,I5)]
def afC (x:Int×Int)(r:Int):St→Prop:=QF aaR Tryz.f119 [false,false] (Li x) (Lj r)
theorem abt (x_1:Int)(y_2:Int)(r:Int)(h:Mn x_1 y_2=some r):bx aaR Tryz.f119 [false,false] 0 (Li (x_1,y_2)) (Lj r):=by
 show Run _ _ (afC (x_1,y_2) r) [.code afD] _
 refine rI 20 [(0,I x_1),(1,I y_2)] [] 1 ?_
 unfold Mn at h
 refine cq 7 [7] [I x_1] 33 ?_
 obtain⟨r3,hr3,h⟩:=bS h
 refine oq 49 (B r3) rfl (cP (aaU hr3)) ?_
 refine cq 5 [5,9] [B r3,I y_2] 81 ?_
 obtain⟨r4,hr4,h⟩:=bS h
 refine oq 97 (B r4) rfl (cP (aaU hr4)) ?_
 refine cq 7 [6,11] [B r4,B r3] 129 ?_
 refine sq h ?_ ?_<;>intro h
 ·refine cq 5 [12] [B r4] 145 ?_
  refine sq h ?_ ?_<;>intro h
  ·refine cq 4 [4] [I (0)] 161 ?_
   obtain rfl:=sI h
   exact rP [I (0)]
  ·refine aq 1 ?_
   refine cq 4 [4] [I (-1)] 161 ?_
   obtain rfl:=sI h
   exact rP [I (-1)]
 ·refine aq 1 ?_
  refine cq 5 [13] [B r4] 145 ?_
  refine sq h ?_ ?_<;>intro h
  ·refine cq 4 [4] [I (1)] 161 ?_
   obtain rfl:=sI h
   exact rP [I (1)]
  ·refine aq 1 ?_
   refine cq 7 [16] [B (decide (x_1<y_2))] 193 ?_
   refine sq h ?_ ?_<;>intro h
   ·refine cq 4 [4] [I (-1)] 209 ?_
    obtain rfl:=sI h
    exact rP [I (-1)]
   ·refine aq 1 ?_
    refine cq 7 [19] [B (decide (x_1>y_2))] 241 ?_
    refine sq h ?_ ?_<;>intro h
    ·refine cq 4 [4] [I (1)] 257 ?_
     obtain rfl:=sI h
     exact rP [I (1)]
    ·refine aq 1 ?_
     refine cq 4 [4] [I (0)] 257 ?_
     obtain rfl:=sI h
     exact rP [I (0)]
theorem XO {G:cb}:b9 G 119 I4:=gT 2 0 (aN XP bB) cn Tryz.func119 (fun a r h=>abt a.1 a.2 r h)
def LN:(Int×Int×State)→List V:=cA I (cA I (oA (fun x:State=>.iptr (bN x) 0)))
def LO (r:Int):V×List V:=(I r,[])
noncomputable def zN :=bm [false,false,false] LN LO fun x=>Bx x.1 x.2.1 x.2.2
theorem tu {i_1:Int}{k_2:Int}{a_3:State}{r}(h:Bx i_1 k_2 a_3=some r):zN.F (LN (i_1,k_2,a_3))=some (LO r):=aK (aO bf (aO bf (aL (nS cw)))) h
noncomputable def afV :=aI Tryz.f118
noncomputable def aa3 :=cm [(119,I4)]
def afU (x:Int×Int×State)(r:Int):St→Prop:=QF aa3 Tryz.f118 [false,false,false] (LN x) (LO r)
theorem abU (i_1:Int)(k_2:Int)(a_3:State)(r:Int)(h:Bx i_1 k_2 a_3=some r):bx aa3 Tryz.f118 [false,false,false] 0 (LN (i_1,k_2,a_3)) (LO r):=by
 show Run _ _ (afU (i_1,k_2,a_3) r) [.code afV] _
 refine rI 19 [(0,I i_1),(1,I k_2),(2,.iptr (ai a_3) 0)] [] 1 ?_
 unfold Bx at h
 refine cq 5 [] [] 17 ?_
 refine d7 [0,1,0,7,15,31,0,64,0,448,960,1984,4095,8191] rfl (by decide +kernel) ?_
 refine dq [] [] (.iptr (ai a_3) 2) rfl (ay rfl rfl rfl) ?_
 refine dq [] [] (.isl false (a_3.Duties.map ah)) rfl (aU rfl rfl) ?_
 refine dk 1 [8] [I i_1] ?_
 obtain⟨e4,he4,h⟩:=bS h
 refine dq [] [] (.iptr (ah e4) 0) rfl (al rfl rfl rfl (bn rfl rfl rfl rfl he4)) ?_
 refine dq [] [] (.iptr (ah e4) 2) rfl (ay rfl rfl rfl) ?_
 refine dq [] [] (I e4.Due) rfl (aU rfl rfl) ?_
 refine dq [] [] (.iptr (ai a_3) 2) rfl (ay rfl rfl rfl) ?_
 refine dq [] [] (.isl false (a_3.Duties.map ah)) rfl (aU rfl rfl) ?_
 refine dk 1 [14] [I k_2] ?_
 obtain⟨e5,he5,h⟩:=bS h
 refine dq [] [] (.iptr (ah e5) 0) rfl (al rfl rfl rfl (bn rfl rfl rfl rfl he5)) ?_
 refine dq [] [] (.iptr (ah e5) 2) rfl (ay rfl rfl rfl) ?_
 refine dq [] [] (I e5.Due) rfl (aU rfl rfl) ?_
 obtain⟨r6,hr6,h⟩:=bS h
 refine dq [] [] (I r6) rfl (cP (aaS hr6)) ?_ (dZ rfl rfl rfl rfl (bg (bW rfl) (bg (bW rfl) dj)) (aaS hr6) (.inr rfl) rfl)
 refine dk 1 [5] [I r6] ?_
 refine de 241 rfl rfl ?_
 obtain rfl:=sI h
 exact rP [I r6]
theorem Nx {G:cb}:b9 G 118 zN:=gT 3 0 (aN XO bB) cn Tryz.func118 (fun a r h=>abU a.1 a.2.1 a.2.2 r h)
def Gi:((List Int)×Int×Int×State)→List V:=cA (o8 1 I) (cA I (cA I (oA (fun x:State=>(.fn 118 [.iptr (bN x) 0]:V)))))
def Gk (r:(List Int)):V×List V:=(.tup [],[.usl 1 (r.map I)])
noncomputable def Db :=bm [true,false,false,false] Gi Gk fun x=>sr x.1 x.2.1 x.2.2.1 x.2.2.2
theorem Vo {cC:List Int}{eO:Int}{eV:Int}{cZ:State}{r}(h:sr cC eO eV cZ=some r):Db.F (Gi (cC,eO,eV,cZ))=some (Gk r):=aK (aO (ft bf) (aO bf (aO bf (aL (jo cw))))) h
noncomputable def M2 :=aI Tryz.f180
noncomputable abbrev zE :=cL (cL (cR (cL (cL (cR (cL (cL (cR M2))))))))
noncomputable def xZ :=cm [(118,zN)]
def Gj (x:(List Int)×Int×Int×State)(r:(List Int)):St→Prop:=QF xZ Tryz.f180 [true,false,false,false] (Gi x) (Gk r)
theorem Pw (cC:List Int)(eO:Int)(eV:Int)(cZ:State)(x5:Int×Int×Int×(List Int)):cg xZ 1 (Gj (cC,eO,eV,cZ)) zE 2 (lj cC eO eV cZ x5) (fun u=>(sT 53 [(0,.hs 1 0 [] 1 0 (u.map I).length),(1,I x5.1),(2,I x5.2.1),(3,.fn 118 [.iptr (ai cZ) 0]),(8,I x5.2.2.1)] [⟨0,1,u.map I⟩] 2)) fun x6=>(sT 53 [(0,.hs 1 0 [] 1 0 (x6.2.map I).length),(1,I x5.1),(2,I x5.2.1),(3,.fn 118 [.iptr (ai cZ) 0]),(8,I x5.2.2.1),(9,I x6.1)] [⟨0,1,x6.2.map I⟩] 2):=ef (AW cC eO eV cZ x5) fun {Q K} hK self ih x6 y h hr hn=>by
 unfold kw at h
 refine aq 2 ?_
 refine d7 [0,0,3,7,15,15,15,111,239,15,15,1039,3599,7695,16383,32767,65535] rfl (by decide +kernel) ?_
 refine dk 4 [21,20,19,18] [B (decide (x6.1>x5.1)),B (decide (x6.1>x5.1)),I x5.1,I x6.1] ?_
 obtain⟨y7,hy7,hy71,hy72⟩:=bL h
 have j7:∀u7,y7=.inr u7→Run xZ 1 Q (.code (cR (cL zE))::.code (cR zE)::.lp zE::.blk 2::K) (sT 53 [(0,.hs 1 0 [] 1 0 (x6.2.map I).length),(1,I x5.1),(2,I x5.2.1),(3,.fn 118 [.iptr (ai cZ) 0]),(8,I x5.2.2.1),(9,I x6.1),(34,B u7)] [⟨0,1,x6.2.map I⟩] 2):=by
  intro u7 hu
  replace h:=hy72 u7 hu
  refine sq h ?_ ?_<;>intro h
  ·refine aq 1 ?_
   refine aq 2 ?_
   refine d7 [0,0,0,0,8,0,0,64,224,480,0,0,3072,7168,16355,32739,65535,131071] rfl (by decide +kernel) ?_
   refine dk 8 [44,43,42,41,40,39,38,37] [I (ac (x6.1 - 1)),I x6.1,.hs 1 0 [] 1 0 (x6.2.map I).length,I (ac (x6.1 - 1)),I x6.1,.hs 1 0 [] 1 0 (x6.2.map I).length,I x6.1,.hs 1 0 [] 1 0 (x6.2.map I).length] ?_
   obtain⟨e8,he8,h⟩:=bS h
   refine dq [1] [] (.hp 1 0 [] 1 (0+Int.toNat (ac (x6.1 - 1))) 0) rfl (al rfl rfl rfl (ce (f:=I) (xs:=x6.2) rfl rfl rfl he8)) ?_
   refine dq [1] [] (I e8) rfl (aU rfl (fU (path:=[]) rfl rfl rfl aF (bO (f:=I) (xs:=x6.2) he8) rfl rfl rfl)) ?_
   refine dk 2 [48,47] [I x6.1,.hs 1 0 [] 1 0 (x6.2.map I).length] ?_
   obtain⟨e9,he9,h⟩:=bS h
   refine dq [1] [] (.hp 1 0 [] 1 (0+Int.toNat x6.1) 0) rfl (al rfl rfl rfl (ce (f:=I) (xs:=x6.2) rfl rfl rfl he9)) ?_
   refine dq [1] [] (I e9) rfl (aU rfl (fU (path:=[]) rfl rfl rfl aF (bO (f:=I) (xs:=x6.2) he9) rfl rfl rfl)) ?_
   obtain⟨e10,he10,h⟩:=bS h
   refine dq [1] [] (.hp 1 0 [] 1 (0+Int.toNat x6.1) 0) rfl (al rfl rfl rfl (ce (f:=I) (xs:=x6.2) rfl rfl rfl he10)) ?_
   refine dz [1] [1] rfl (et rfl rfl (dF (path:=[]) (pl:=true) (e':=I e8) (es2':=(bI x6.2 x6.1 e8).map I) rfl (ba rfl) rfl rfl rfl aF (bO (f:=I) (xs:=x6.2) he10) rfl rfl rfl (gB (f:=I) (xs:=x6.2) (y:=e8)) cJ 0 rfl)) ?_
   try rw[←fK (f:=I) (xs:=x6.2) (i:=x6.1) (z:=e8)]
   obtain⟨e13,he13,h⟩:=bS h
   refine dq [1] [] (.hp 1 0 [] 1 (0+Int.toNat (ac (x6.1 - 1))) 0) rfl (al rfl rfl rfl (ce (f:=I) (xs:=(bI x6.2 x6.1 e8)) rfl rfl rfl he13)) ?_
   obtain⟨rw14,hrw14,h⟩:=lJ h
   refine dz [1] [1] rfl (et rfl rfl (dF (path:=[]) (pl:=true) (e':=I e9) (es2':=(rw14).map I) rfl (ba rfl) rfl rfl rfl aF (bO (f:=I) (xs:=(bI x6.2 x6.1 e8)) he13) rfl rfl rfl (fM (f:=I) (xs:=(bI x6.2 x6.1 e8)) (y:=e9) hrw14) cJ 0 rfl)) ?_
   try rw[←eE hrw14 (f:=I) (xs:=(bI x6.2 x6.1 e8))]
   refine de 290 rfl rfl ?_
   refine cq 6 [9] [I (ac (x6.1 - 1))] 338 ?_
   refine cX ?_
   exact rf [0,1,2,3,8,9] [1] (ih _ _ h hr hn :)
  ·refine aq 1 ?_
   exact rf [0,1,2,3,8] [1] (hn _ (an h) :) (hk:=hK)
 have r7:∀r',y7=.inl r'→∀st,Gj (cC,eO,eV,cZ) r' st→Q st:=fun r' e st hq=>hr r' (hy71 r' e) st hq
 replace h:=hy7
 refine sp 21 h rfl ?_ ?_<;>intro h
 ·refine dk 3 [24,23,22] [I x6.1,.hs 1 0 [] 1 0 (x6.2.map I).length,.fn 118 [.iptr (ai cZ) 0]] ?_
  obtain⟨e18,he18,h⟩:=bS h
  refine dy [1] [] (.hp 1 0 [] 1 (0+Int.toNat x6.1) 0) rfl (al rfl rfl rfl (ce (f:=I) (xs:=x6.2) rfl rfl rfl he18)) ?_
  refine dy [1] [] (I e18) rfl (aU rfl (fU (path:=[]) rfl rfl rfl aF (bO (f:=I) (xs:=x6.2) he18) rfl rfl rfl)) ?_
  refine dk 3 [29,28,27] [I (ac (x6.1 - 1)),I x6.1,.hs 1 0 [] 1 0 (x6.2.map I).length] ?_
  obtain⟨e19,he19,h⟩:=bS h
  refine dy [1] [] (.hp 1 0 [] 1 (0+Int.toNat (ac (x6.1 - 1))) 0) rfl (al rfl rfl rfl (ce (f:=I) (xs:=x6.2) rfl rfl rfl he19)) ?_
  refine dy [1] [] (I e19) rfl (aU rfl (fU (path:=[]) rfl rfl rfl aF (bO (f:=I) (xs:=x6.2) he19) rfl rfl rfl)) ?_
  obtain⟨r20,hr20,h⟩:=bS h
  refine dy [] [] (I r20) rfl (cP (tu hr20)) ?_ (dZ rfl rfl rfl rfl (bg (bW rfl) (bg (bW rfl) (bg (bW rfl) dj))) (tu hr20) (.inr rfl) rfl)
  refine dk 2 [34,33] [B (decide (r20<0)),B (decide (r20<0))] ?_
  refine de 274 rfl rfl ?_
  exact rf [0,1,2,3,8,9,34] [1] (j7 _ (an h) :)
 ·refine dk 13 [34,33,32,31,30,29,28,27,26,25,24,23,22] [B false,.und,.und,.und,.und,.und,.und,.und,.und,.und,.und,.und,.und] ?_
  refine de 274 rfl rfl ?_
  exact rf [0,1,2,3,8,9,34] [1] (j7 _ (an h) :)
theorem Pv (cC:List Int)(eO:Int)(eV:Int)(cZ:State):cg xZ 1 (Gj (cC,eO,eV,cZ)) (cL (cL (cR M2))) 0 (mI cC eO eV cZ) (fun u=>(sT 53 [] [⟨0,1,u.map I⟩] 2)) fun x5=>(sT 53 [(0,.hs 1 0 [] 1 0 (x5.2.2.2.map I).length),(1,I x5.1),(2,I x5.2.1),(3,.fn 118 [.iptr (ai cZ) 0]),(8,I x5.2.2.1)] [⟨0,1,x5.2.2.2.map I⟩] 2):=ef (AV cC eO eV cZ) fun {Q K} hK self ih x5 y h hr hn=>by
 unfold kv at h
 refine cq 7 [14] [B (decide (x5.2.2.1<x5.2.1))] 50 ?_
 refine sq h ?_ ?_<;>intro h
 ·refine aq 1 ?_
  refine cq 8 [9] [I x5.2.2.1] 82 ?_
  obtain⟨y21,hy21,hy211,hy212⟩:=bL h
  refine bM rfl ?_
  refine rf [0,1,2,3,8,9] [1] (Pw cC eO eV cZ x5 rfl (x5.2.2.1,x5.2.2.2) _ hy21 (fun r' e st hq=>hr r' (hy211 r' e) st hq) fun u21 hu=>?_)
  replace h:=hy212 u21 hu
  refine cq 6 [8] [I (ac (x5.2.2.1+1))] 50 ?_
  refine cX ?_
  exact rf [0,1,2,3,8] [1] (ih _ _ h hr hn :)
 ·refine aq 1 ?_
  exact rf [] [1] (hn _ (an h) :) (hk:=hK)
theorem YT (cC:List Int)(eO:Int)(eV:Int)(cZ:State)(r:(List Int))(h:sr cC eO eV cZ=some r):bx xZ Tryz.f180 [true,false,false,false] 1 (Gi (cC,eO,eV,cZ)) (Gk r):=by
 show Run _ _ (Gj (cC,eO,eV,cZ) r) [.code M2] _
 refine rI 53 [(0,.hs 1 0 [] 1 0 (cC.map I).length),(1,I eO),(2,I eV),(3,.fn 118 [.iptr (ai cZ) 0])] [(1,some ⟨0,1,cC.map I⟩)] 2 ?_
 unfold sr at h
 refine cq 7 [8] [I (ac (eO+1))] 50 ?_
 obtain⟨y22,hy22,hy221,hy222⟩:=bJ h
 refine bM rfl ?_
 refine rf [0,1,2,3,8] [1] (Pv cC eO eV cZ rfl (eO,eV,(ac (eO+1)),cC) _ hy22 (fun r' e st hq=>by rw[hy221 r' e] at hq;exact hq) fun u22 hu=>?_)
 replace h:=hy222 u22 hu
 obtain⟨g23,h⟩:=gG h
 obtain rfl:=sI h
 exact Ac ⟨_,fin (vs:=[]) rfl d3 rfl (jk rfl (ki (f:=I) (xs:=u22) (by simpa using g23) rfl) (cz (cz (cz eP)))),qj eI⟩
theorem Vp {G:cb}:b9 G 180 Db:=gT 4 1 (aN Nx bB) cn Tryz.func180 (fun a r h=>YT a.1 a.2.1 a.2.2.1 a.2.2.2 r h)
def Gr:((List Int)×Int×Int×Int×State)→List V:=cA (o8 1 I) (cA I (cA I (cA I (oA (fun x:State=>(.fn 118 [.iptr (bN x) 0]:V))))))
def Gs (r:(List Int)):V×List V:=(.tup [],[.usl 1 (r.map I)])
noncomputable def Df :=bm [true,false,false,false,false] Gr Gs fun x=>wg x.1 x.2.1 x.2.2.1 x.2.2.2.1 x.2.2.2.2
theorem M7 {ez:List Int}{fj:Int}{f8:Int}{ig:Int}{fO:State}{r}(h:wg ez fj f8 ig fO=some r):Df.F (Gr (ez,fj,f8,ig,fO))=some (Gs r):=aK (aO (ft bf) (aO bf (aO bf (aO bf (aL (jo cw)))))) h
noncomputable def Vt :=aI Tryz.f216
noncomputable def M6 :=cm []
def Vs (x:(List Int)×Int×Int×Int×State)(r:(List Int)):St→Prop:=QF M6 Tryz.f216 [true,false,false,false,false] (Gr x) (Gs r)
theorem PB (ez:List Int)(fj:Int)(f8:Int)(ig:Int)(fO:State):cg M6 1 (Vs (ez,fj,f8,ig,fO)) (cL (cL (cR Vt))) 0 (mJ ez fj f8 ig fO) (fun u=>(sT 38 [] [⟨0,1,u.map I⟩] 2)) fun x6=>(sT 38 [(0,.hs 1 0 [] 1 0 (x6.2.map I).length),(1,I fj),(2,I f8),(3,I ig),(10,I x6.1)] [⟨0,1,x6.2.map I⟩] 2):=ef (A6 ez fj f8 ig fO) fun {Q K} hK self ih x6 y h hr hn=>by
 unfold lZ at h
 refine cq 7 [13] [B (decide (x6.1<ig))] 50 ?_
 refine sq h ?_ ?_<;>intro h
 ·refine aq 1 ?_
  refine aq 2 ?_
  refine d7 [0,0,0,6,0,0,0,96,0,0,0,1536,3840,7936,0,0,0,98304,245760,507904,1048335,2096911,4194303,8388607] rfl (by decide +kernel) ?_
  refine dk 12 [27,26,25,24,23,22,21,20,19,18,17,16] [I (ac (f8+x6.1)),I x6.1,I f8,.hs 1 0 [] 1 0 (x6.2.map I).length,I (ac (f8+x6.1)),I x6.1,I f8,.hs 1 0 [] 1 0 (x6.2.map I).length,I (ac (fj+x6.1)),I x6.1,I fj,.hs 1 0 [] 1 0 (x6.2.map I).length] ?_
  obtain⟨e7,he7,h⟩:=bS h
  refine dq [1] [] (.hp 1 0 [] 1 (0+Int.toNat (ac (f8+x6.1))) 0) rfl (al rfl rfl rfl (ce (f:=I) (xs:=x6.2) rfl rfl rfl he7)) ?_
  refine dq [1] [] (I e7) rfl (aU rfl (fU (path:=[]) rfl rfl rfl aF (bO (f:=I) (xs:=x6.2) he7) rfl rfl rfl)) ?_
  refine dk 4 [33,32,31,30] [I (ac (fj+x6.1)),I x6.1,I fj,.hs 1 0 [] 1 0 (x6.2.map I).length] ?_
  obtain⟨e8,he8,h⟩:=bS h
  refine dq [1] [] (.hp 1 0 [] 1 (0+Int.toNat (ac (fj+x6.1))) 0) rfl (al rfl rfl rfl (ce (f:=I) (xs:=x6.2) rfl rfl rfl he8)) ?_
  refine dq [1] [] (I e8) rfl (aU rfl (fU (path:=[]) rfl rfl rfl aF (bO (f:=I) (xs:=x6.2) he8) rfl rfl rfl)) ?_
  obtain⟨e9,he9,h⟩:=bS h
  refine dq [1] [] (.hp 1 0 [] 1 (0+Int.toNat (ac (fj+x6.1))) 0) rfl (al rfl rfl rfl (ce (f:=I) (xs:=x6.2) rfl rfl rfl he9)) ?_
  refine dz [1] [1] rfl (et rfl rfl (dF (path:=[]) (pl:=true) (e':=I e7) (es2':=(bI x6.2 (ac (fj+x6.1)) e7).map I) rfl (ba rfl) rfl rfl rfl aF (bO (f:=I) (xs:=x6.2) he9) rfl rfl rfl (gB (f:=I) (xs:=x6.2) (y:=e7)) cJ 0 rfl)) ?_
  try rw[←fK (f:=I) (xs:=x6.2) (i:=(ac (fj+x6.1))) (z:=e7)]
  obtain⟨e12,he12,h⟩:=bS h
  refine dq [1] [] (.hp 1 0 [] 1 (0+Int.toNat (ac (f8+x6.1))) 0) rfl (al rfl rfl rfl (ce (f:=I) (xs:=(bI x6.2 (ac (fj+x6.1)) e7)) rfl rfl rfl he12)) ?_
  obtain⟨rw13,hrw13,h⟩:=lJ h
  refine dz [1] [1] rfl (et rfl rfl (dF (path:=[]) (pl:=true) (e':=I e8) (es2':=(rw13).map I) rfl (ba rfl) rfl rfl rfl aF (bO (f:=I) (xs:=(bI x6.2 (ac (fj+x6.1)) e7)) he12) rfl rfl rfl (fM (f:=I) (xs:=(bI x6.2 (ac (fj+x6.1)) e7)) (y:=e8) hrw13) cJ 0 rfl)) ?_
  try rw[←eE hrw13 (f:=I) (xs:=(bI x6.2 (ac (fj+x6.1)) e7))]
  refine de 434 rfl rfl ?_
  refine cq 6 [10] [I (ac (x6.1+1))] 482 ?_
  refine cX ?_
  exact rf [0,1,2,3,10] [1] (ih _ _ h hr hn :)
 ·refine aq 1 ?_
  exact rf [] [1] (hn _ (an h) :) (hk:=hK)
theorem YW (ez:List Int)(fj:Int)(f8:Int)(ig:Int)(fO:State)(r:(List Int))(h:wg ez fj f8 ig fO=some r):bx M6 Tryz.f216 [true,false,false,false,false] 1 (Gr (ez,fj,f8,ig,fO)) (Gs r):=by
 show Run _ _ (Vs (ez,fj,f8,ig,fO) r) [.code Vt] _
 refine rI 38 [(0,.hs 1 0 [] 1 0 (ez.map I).length),(1,I fj),(2,I f8),(3,I ig),(4,.fn 118 [.iptr (ai fO) 0])] [(1,some ⟨0,1,ez.map I⟩)] 2 ?_
 unfold wg at h
 refine cq 5 [10] [I (0)] 18 ?_
 obtain⟨y17,hy17,hy171,hy172⟩:=bJ h
 refine bM rfl ?_
 refine rf [0,1,2,3,10] [1] (PB ez fj f8 ig fO rfl (0,ez) _ hy17 (fun r' e st hq=>by rw[hy171 r' e] at hq;exact hq) fun u17 hu=>?_)
 replace h:=hy172 u17 hu
 obtain⟨g18,h⟩:=gG h
 obtain rfl:=sI h
 exact Ac ⟨_,fin (vs:=[]) rfl d3 rfl (jk rfl (ki (f:=I) (xs:=u17) (by simpa using g18) rfl) (cz (cz (cz (cz eP))))),qj eI⟩
theorem Vu {G:cb}:b9 G 216 Df:=gT 5 1 bB cn Tryz.func216 (fun a r h=>YW a.1 a.2.1 a.2.2.1 a.2.2.2.1 a.2.2.2.2 r h)
def Gl:((List Int)×Int×Int×Int×State)→List V:=cA (o8 1 I) (cA I (cA I (cA I (oA (fun x:State=>(.fn 118 [.iptr (bN x) 0]:V))))))
def Gn (r:(List Int)):V×List V:=(.tup [],[.usl 1 (r.map I)])
noncomputable def Dc :=bm [true,false,false,false,false] Gl Gn fun x=>yb x.1 x.2.1 x.2.2.1 x.2.2.2.1 x.2.2.2.2
theorem aew {eT:List Int}{a_9:Int}{fb:Int}{gV:Int}{ep:State}{r}(h:yb eT a_9 fb gV ep=some r):Dc.F (Gl (eT,a_9,fb,gV,ep))=some (Gn r):=aK (aO (ft bf) (aO bf (aO bf (aO bf (aL (jo cw)))))) h
noncomputable def M4 :=aI Tryz.f193
noncomputable def Gm :=cm [(216,Df)]
def M3 (x:(List Int)×Int×Int×Int×State)(r:(List Int)):St→Prop:=QF Gm Tryz.f193 [true,false,false,false,false] (Gl x) (Gn r)
theorem Px (eT:List Int)(a_9:Int)(fb:Int)(gV:Int)(ep:State):cg Gm 1 (M3 (eT,a_9,fb,gV,ep)) (cL (cL (cL (cR (cR M4))))) 0 (uW eT a_9 fb gV ep) (fun u=>(sT 58 [(0,.hs 1 0 [] 1 0 (u.2.2.map I).length),(2,I u.1),(4,.fn 118 [.iptr (ai ep) 0]),(10,I u.2.1)] [⟨0,1,u.2.2.map I⟩] 2)) fun x6=>(sT 58 [(0,.hs 1 0 [] 1 0 (x6.2.2.map I).length),(2,I fb),(4,.fn 118 [.iptr (ai ep) 0]),(10,I x6.1),(11,I x6.2.1)] [⟨0,1,x6.2.2.map I⟩] 2):=ef (AX eT a_9 fb gV ep) fun {Q K} hK self ih x6 y h hr hn=>by
 unfold oz at h
 refine cq 7 [20] [B (x6.1 != x6.2.1)] 50 ?_
 refine sq h ?_ ?_<;>intro h
 ·refine aq 1 ?_
  refine cq 7 [23] [B (decide (x6.1>x6.2.1))] 98 ?_
  obtain⟨y7,hy7,hy71,hy72⟩:=bL h
  have j7:∀u7,y7=.inr u7→Run Gm 1 Q (.blk 1::.lp (cL (cL (cL (cR (cR M4)))))::.blk 0::K) (sT 58 [(0,.hs 1 0 [] 1 0 (u7.2.2.map I).length),(2,I fb),(4,.fn 118 [.iptr (ai ep) 0]),(10,I u7.1),(11,I u7.2.1)] [⟨0,1,u7.2.2.map I⟩] 2):=by
   intro u7 hu
   replace h:=hy72 u7 hu
   refine aq 1 ?_
   refine cX ?_
   exact rf [0,2,4,10,11] [1] (ih _ _ h hr hn :)
  have r7:∀r',y7=.inl r'→∀st,M3 (eT,a_9,fb,gV,ep) r' st→Q st:=fun r' e st hq=>hr r' (hy71 r' e) st hq
  replace h:=hy7
  refine sq h ?_ ?_<;>intro h
  ·refine cq 9 [24,27,28,29,30] [.hs 1 0 [] 1 0 (x6.2.2.map I).length,I (ac (fb - x6.1)),I fb,I x6.2.1,.fn 118 [.iptr (ai ep) 0]] 210 ?_
   obtain⟨r8,hr8,h⟩:=bS h
   obtain⟨g9,h⟩:=gG h
   refine oq 226 (.tup []) rfl (bK rfl rfl (b8 rfl rfl rfl (iE (iI rfl (eJ (path:=[]) rfl rfl aF rfl)) (bg (bW rfl) (bg (bW rfl) (bg (bW rfl) (bg (oZ (dE (f6 rfl) gQ)) dj))))) (M7 hr8) (.inr rfl) (gE rfl rfl rfl rfl dK) rfl rfl rfl)) ?_
   try rw[eA (f:=I) (xs:=x6.2.2) (ys:=r8) g9]
   refine cq 7 [10] [I (ac (x6.1 - x6.2.1))] 290 ?_
   exact rf [0,2,4,10,11] [1] (j7 _ (an h) :)
  ·refine cq 13 [35,38,43,44,45] [.hs 1 0 [] 1 0 (x6.2.2.map I).length,I (ac (fb - x6.1)),I (ac ((ac (fb+x6.2.1)) - x6.1)),I x6.1,.fn 118 [.iptr (ai ep) 0]] 274 ?_
   obtain⟨r10,hr10,h⟩:=bS h
   obtain⟨g11,h⟩:=gG h
   refine oq 290 (.tup []) rfl (bK rfl rfl (b8 rfl rfl rfl (iE (iI rfl (eJ (path:=[]) rfl rfl aF rfl)) (bg (bW rfl) (bg (bW rfl) (bg (bW rfl) (bg (oZ (dE (f6 rfl) gQ)) dj))))) (M7 hr10) (.inr rfl) (gE rfl rfl rfl rfl dK) rfl rfl rfl)) ?_
   try rw[eA (f:=I) (xs:=x6.2.2) (ys:=r10) g11]
   refine cq 7 [11] [I (ac (x6.2.1 - x6.1))] 354 ?_
   exact rf [0,2,4,10,11] [1] (j7 _ (an h) :)
 ·refine aq 1 ?_
  exact rf [0,2,4,10] [1] (hn _ (an h) :) (hk:=hK)
theorem YU (eT:List Int)(a_9:Int)(fb:Int)(gV:Int)(ep:State)(r:(List Int))(h:yb eT a_9 fb gV ep=some r):bx Gm Tryz.f193 [true,false,false,false,false] 1 (Gl (eT,a_9,fb,gV,ep)) (Gn r):=by
 show Run _ _ (M3 (eT,a_9,fb,gV,ep) r) [.code M4] _
 refine rI 58 [(0,.hs 1 0 [] 1 0 (eT.map I).length),(1,I a_9),(2,I fb),(3,I gV),(4,.fn 118 [.iptr (ai ep) 0])] [(1,some ⟨0,1,eT.map I⟩)] 2 ?_
 unfold yb at h
 refine cq 16 [10,11] [I (ac (fb - a_9)),I (ac (gV - fb))] 130 ?_
 obtain⟨y12,hy12,hy121,hy122⟩:=bJ h
 refine bM rfl ?_
 refine rf [0,2,4,10,11] [1] (Px eT a_9 fb gV ep rfl ((ac (fb - a_9)),(ac (gV - fb)),eT) _ hy12 (fun r' e st hq=>by rw[hy121 r' e] at hq;exact hq) fun u12 hu=>?_)
 replace h:=hy122 u12 hu
 refine cq 8 [50,53,54,55,56] [.hs 1 0 [] 1 0 (u12.2.2.map I).length,I (ac (u12.1 - u12.2.1)),I u12.1,I u12.2.1,.fn 118 [.iptr (ai ep) 0]] 114 ?_
 obtain⟨r13,hr13,h⟩:=bS h
 obtain⟨g14,h⟩:=gG h
 refine oq 130 (.tup []) rfl (bK rfl rfl (b8 rfl rfl rfl (iE (iI rfl (eJ (path:=[]) rfl rfl aF rfl)) (bg (bW rfl) (bg (bW rfl) (bg (bW rfl) (bg (oZ (dE (f6 rfl) gQ)) dj))))) (M7 hr13) (.inr rfl) (gE rfl rfl rfl rfl dK) rfl rfl rfl)) ?_
 try rw[eA (f:=I) (xs:=u12.2.2) (ys:=r13) g14]
 refine aq 1 ?_
 obtain⟨g15,h⟩:=gG h
 obtain rfl:=sI h
 exact Ac ⟨_,fin (vs:=[]) rfl d3 rfl (jk rfl (ki (f:=I) (xs:=r13) (by simpa using g15) rfl) (cz (cz (cz (cz eP))))),qj eI⟩
theorem Vq {G:cb}:b9 G 193 Dc:=gT 5 1 (aN Vu bB) cn Tryz.func193 (fun a r h=>YU a.1 a.2.1 a.2.2.1 a.2.2.2.1 a.2.2.2.2 r h)
def ye:((List Int)×Int×Int×Int×State)→List V:=cA (o8 1 I) (cA I (cA I (cA I (oA (fun x:State=>(.fn 118 [.iptr (bN x) 0]:V))))))
def yf (r:(List Int)):V×List V:=(.tup [],[.usl 1 (r.map I)])
noncomputable def yg (aA:((List Int)×Int×Int×Int×State)→Option (List Int)):Ent:=bm [true,false,false,false,false] ye yf aA
theorem Jl (aA:((List Int)×Int×Int×Int×State)→Option (List Int)){x}{r}(h:aA x=some r):(yg aA).F (ye x)=some (yf r):=aK (aO (ft bf) (aO bf (aO bf (aO bf (aL (jo cw)))))) h
noncomputable def Dg :=yg (aJ fW)
theorem Vv {ao:List Int}{aX:Int}{aY:Int}{be:Int}{aG:State}{r}(h:Jk ao aX aY be aG=some r):Dg.F (ye (ao,aX,aY,be,aG))=some (yf r):=Jl (aJ fW) h
noncomputable def pc :=aI Tryz.f181
noncomputable abbrev Qo :=cL (cL (cL (cR (cR (cL (cR (cL pc)))))))
noncomputable abbrev Qp :=cL (cL (cL (cR (cR (cL (cR (cL (cR pc))))))))
noncomputable abbrev abD :=cL (cL (cR (cL (cR (cR (cR (cL (cR (cL pc)))))))))
noncomputable abbrev Qq :=cL (cL (cL (cR (cR (cR (cR (cR (cR (cR pc)))))))))
noncomputable abbrev zG :=cR (cR (cR (cR (cR (cR (cR (cR (cR (cR pc)))))))))
noncomputable abbrev abE :=cL (cL (cR (cL (cR (cR (cR (cL (cR (cL (cR pc))))))))))
noncomputable abbrev Jm :=cR zG
noncomputable def ir (aA:((List Int)×Int×Int×Int×State)→Option (List Int)):Env:=cm [(118,zN),(181,(yg aA)),(193,Dc)]
def gI (aA:((List Int)×Int×Int×Int×State)→Option (List Int))(x:(List Int)×Int×Int×Int×State)(r:(List Int)):St→Prop:=QF (ir aA) Tryz.f181 [true,false,false,false,false] (ye x) (yf r)
theorem PC (aA:((List Int)×Int×Int×Int×State)→Option (List Int))(ao:List Int)(aX:Int)(aY:Int)(be:Int)(aG:State):cg (ir aA) 1 (gI aA (ao,aX,aY,be,aG)) Qo 0 (pT aA ao aX aY be aG) (fun u=>(sT 220 [(0,.hs 1 0 [] 1 0 (u.2.2.map I).length),(1,I u.1),(10,I u.2.1)] [⟨0,1,u.2.2.map I⟩] 2)) fun x6=>(sT 220 [(0,.hs 1 0 [] 1 0 (ao.map I).length),(1,I aX),(4,.fn 118 [.iptr (ai aG) 0]),(10,I x6.1),(11,I x6.2)] [⟨0,1,ao.map I⟩] 2):=ef (A7 aA ao aX aY be aG) fun {Q K} hK self ih x6 y h hr hn=>by
 unfold js at h
 refine cq 7 [33] [B (decide (x6.1<x6.2))] 50 ?_
 refine sq h ?_ ?_<;>intro h
 ·refine aq 1 ?_
  refine cq 12 [12] [I (IntKind.i64.wrap (ek .u64 (IntKind.u64.wrap (ac (x6.1+x6.2))) 1))] 162 ?_
  refine d7 [0,0,0,6,14,0,0,96,224,511,1023] rfl (by decide +kernel) ?_
  refine dk 3 [42,41,40] [I (IntKind.i64.wrap (ek .u64 (IntKind.u64.wrap (ac (x6.1+x6.2))) 1)),.hs 1 0 [] 1 0 (ao.map I).length,.fn 118 [.iptr (ai aG) 0]] ?_
  obtain⟨e7,he7,h⟩:=bS h
  refine dq [1] [] (.hp 1 0 [] 1 (0+Int.toNat (IntKind.i64.wrap (ek .u64 (IntKind.u64.wrap (ac (x6.1+x6.2))) 1))) 0) rfl (al rfl rfl rfl (ce (f:=I) (xs:=ao) rfl rfl rfl he7)) ?_
  refine dq [1] [] (I e7) rfl (aU rfl (fU (path:=[]) rfl rfl rfl aF (bO (f:=I) (xs:=ao) he7) rfl rfl rfl)) ?_
  refine dk 2 [46,45] [I aX,.hs 1 0 [] 1 0 (ao.map I).length] ?_
  obtain⟨e8,he8,h⟩:=bS h
  refine dq [1] [] (.hp 1 0 [] 1 (0+Int.toNat aX) 0) rfl (al rfl rfl rfl (ce (f:=I) (xs:=ao) rfl rfl rfl he8)) ?_
  refine dq [1] [] (I e8) rfl (aU rfl (fU (path:=[]) rfl rfl rfl aF (bO (f:=I) (xs:=ao) he8) rfl rfl rfl)) ?_
  obtain⟨r9,hr9,h⟩:=bS h
  refine dq [] [] (I r9) rfl (cP (tu hr9)) ?_ (dZ rfl rfl rfl rfl (bg (bW rfl) (bg (bW rfl) (bg (bW rfl) dj))) (tu hr9) (.inr rfl) rfl)
  refine dk 1 [50] [B (decide (r9<0))] ?_
  refine de 338 rfl rfl ?_
  obtain⟨u10,hu10,h⟩:=lJ h
  have j10:Run (ir aA) 1 Q (.blk 1::.lp Qo::.blk 0::K) (sT 220 [(0,.hs 1 0 [] 1 0 (ao.map I).length),(1,I aX),(4,.fn 118 [.iptr (ai aG) 0]),(10,I u10.1),(11,I u10.2)] [⟨0,1,ao.map I⟩] 2):=by
   refine aq 1 ?_
   refine cX ?_
   exact rf [0,1,4,10,11] [1] (ih _ _ h hr hn :)
  replace h:=hu10
  clear hu10
  refine tM h rfl rfl ?_ ?_<;>intro h
  ·refine cq 5 [10] [I (ac ((IntKind.i64.wrap (ek .u64 (IntKind.u64.wrap (ac (x6.1+x6.2))) 1))+1))] 386 ?_
   subst h
   exact rf [0,1,4,10,11] [1] (j10 :)
  ·refine cq 4 [11] [I (IntKind.i64.wrap (ek .u64 (IntKind.u64.wrap (ac (x6.1+x6.2))) 1))] 370 ?_
   subst h
   exact rf [0,1,4,10,11] [1] (j10 :)
 ·refine aq 1 ?_
  exact rf [0,1,10] [1] (hn _ (an h) :) (hk:=hK)
theorem PD (aA:((List Int)×Int×Int×Int×State)→Option (List Int))(ao:List Int)(aX:Int)(aY:Int)(be:Int)(aG:State)(u11:Int×Int×(List Int)):cg (ir aA) 1 (gI aA (ao,aX,aY,be,aG)) abD 2 (jV aA ao aX aY be aG u11) (fun u=>(sT 220 [] [⟨0,1,u.map I⟩] 2)) fun x12=>(sT 220 [(0,.hs 1 0 [] 1 0 (x12.2.map I).length),(10,I u11.2.1),(13,I x12.1)] [⟨0,1,x12.2.map I⟩] 2):=ef (A8 aA ao aX aY be aG u11) fun {Q K} hK self ih x12 y h hr hn=>by
 unfold jt at h
 refine cq 8 [58] [B (decide (x12.1<(ac (u11.2.1 - 1))))] 66 ?_
 refine sq h ?_ ?_<;>intro h
 ·refine aq 1 ?_
  refine aq 2 ?_
  refine d7 [0,0,0,0,8,0,0,64,224,480,0,0,3072,7168,16355,32739,65535,131071] rfl (by decide +kernel) ?_
  refine dk 8 [68,67,66,65,64,63,62,61] [I (ac (x12.1+1)),I x12.1,.hs 1 0 [] 1 0 (x12.2.map I).length,I (ac (x12.1+1)),I x12.1,.hs 1 0 [] 1 0 (x12.2.map I).length,I x12.1,.hs 1 0 [] 1 0 (x12.2.map I).length] ?_
  obtain⟨e13,he13,h⟩:=bS h
  refine dq [1] [] (.hp 1 0 [] 1 (0+Int.toNat (ac (x12.1+1))) 0) rfl (al rfl rfl rfl (ce (f:=I) (xs:=x12.2) rfl rfl rfl he13)) ?_
  refine dq [1] [] (I e13) rfl (aU rfl (fU (path:=[]) rfl rfl rfl aF (bO (f:=I) (xs:=x12.2) he13) rfl rfl rfl)) ?_
  refine dk 2 [72,71] [I x12.1,.hs 1 0 [] 1 0 (x12.2.map I).length] ?_
  obtain⟨e14,he14,h⟩:=bS h
  refine dq [1] [] (.hp 1 0 [] 1 (0+Int.toNat x12.1) 0) rfl (al rfl rfl rfl (ce (f:=I) (xs:=x12.2) rfl rfl rfl he14)) ?_
  refine dq [1] [] (I e14) rfl (aU rfl (fU (path:=[]) rfl rfl rfl aF (bO (f:=I) (xs:=x12.2) he14) rfl rfl rfl)) ?_
  obtain⟨e15,he15,h⟩:=bS h
  refine dq [1] [] (.hp 1 0 [] 1 (0+Int.toNat x12.1) 0) rfl (al rfl rfl rfl (ce (f:=I) (xs:=x12.2) rfl rfl rfl he15)) ?_
  refine dz [1] [1] rfl (et rfl rfl (dF (path:=[]) (pl:=true) (e':=I e13) (es2':=(bI x12.2 x12.1 e13).map I) rfl (ba rfl) rfl rfl rfl aF (bO (f:=I) (xs:=x12.2) he15) rfl rfl rfl (gB (f:=I) (xs:=x12.2) (y:=e13)) cJ 0 rfl)) ?_
  try rw[←fK (f:=I) (xs:=x12.2) (i:=x12.1) (z:=e13)]
  obtain⟨e18,he18,h⟩:=bS h
  refine dq [1] [] (.hp 1 0 [] 1 (0+Int.toNat (ac (x12.1+1))) 0) rfl (al rfl rfl rfl (ce (f:=I) (xs:=(bI x12.2 x12.1 e13)) rfl rfl rfl he18)) ?_
  obtain⟨rw19,hrw19,h⟩:=lJ h
  refine dz [1] [1] rfl (et rfl rfl (dF (path:=[]) (pl:=true) (e':=I e14) (es2':=(rw19).map I) rfl (ba rfl) rfl rfl rfl aF (bO (f:=I) (xs:=(bI x12.2 x12.1 e13)) he18) rfl rfl rfl (fM (f:=I) (xs:=(bI x12.2 x12.1 e13)) (y:=e14) hrw19) cJ 0 rfl)) ?_
  try rw[←eE hrw19 (f:=I) (xs:=(bI x12.2 x12.1 e13))]
  refine de 354 rfl rfl ?_
  refine cq 6 [13] [I (ac (x12.1+1))] 402 ?_
  refine cX ?_
  exact rf [0,10,13] [1] (ih _ _ h hr hn :)
 ·refine aq 1 ?_
  exact rf [] [1] (hn _ (an h) :) (hk:=hK)
theorem PE (aA:((List Int)×Int×Int×Int×State)→Option (List Int))(ao:List Int)(aX:Int)(aY:Int)(be:Int)(aG:State):cg (ir aA) 1 (gI aA (ao,aX,aY,be,aG)) Qp 4 (pU aA ao aX aY be aG) (fun u=>(sT 220 [(0,.hs 1 0 [] 1 0 (u.2.2.map I).length),(2,I u.1),(14,I u.2.1)] [⟨0,1,u.2.2.map I⟩] 2)) fun x25=>(sT 220 [(0,.hs 1 0 [] 1 0 (ao.map I).length),(2,I aY),(4,.fn 118 [.iptr (ai aG) 0]),(14,I x25.1),(15,I x25.2)] [⟨0,1,ao.map I⟩] 2):=ef (A9 aA ao aX aY be aG) fun {Q K} hK self ih x25 y h hr hn=>by
 unfold ju at h
 refine cq 7 [85] [B (decide (x25.1<x25.2))] 50 ?_
 refine sq h ?_ ?_<;>intro h
 ·refine aq 1 ?_
  refine cq 12 [16] [I (IntKind.i64.wrap (ek .u64 (IntKind.u64.wrap (ac (x25.1+x25.2))) 1))] 162 ?_
  refine d7 [0,0,0,6,14,0,0,96,224,511,1023,2047] rfl (by decide +kernel) ?_
  refine dk 3 [94,93,92] [I aY,.hs 1 0 [] 1 0 (ao.map I).length,.fn 118 [.iptr (ai aG) 0]] ?_
  obtain⟨e26,he26,h⟩:=bS h
  refine dq [1] [] (.hp 1 0 [] 1 (0+Int.toNat aY) 0) rfl (al rfl rfl rfl (ce (f:=I) (xs:=ao) rfl rfl rfl he26)) ?_
  refine dq [1] [] (I e26) rfl (aU rfl (fU (path:=[]) rfl rfl rfl aF (bO (f:=I) (xs:=ao) he26) rfl rfl rfl)) ?_
  refine dk 2 [98,97] [I (IntKind.i64.wrap (ek .u64 (IntKind.u64.wrap (ac (x25.1+x25.2))) 1)),.hs 1 0 [] 1 0 (ao.map I).length] ?_
  obtain⟨e27,he27,h⟩:=bS h
  refine dq [1] [] (.hp 1 0 [] 1 (0+Int.toNat (IntKind.i64.wrap (ek .u64 (IntKind.u64.wrap (ac (x25.1+x25.2))) 1))) 0) rfl (al rfl rfl rfl (ce (f:=I) (xs:=ao) rfl rfl rfl he27)) ?_
  refine dq [1] [] (I e27) rfl (aU rfl (fU (path:=[]) rfl rfl rfl aF (bO (f:=I) (xs:=ao) he27) rfl rfl rfl)) ?_
  obtain⟨r28,hr28,h⟩:=bS h
  refine dq [] [] (I r28) rfl (cP (tu hr28)) ?_ (dZ rfl rfl rfl rfl (bg (bW rfl) (bg (bW rfl) (bg (bW rfl) dj))) (tu hr28) (.inr rfl) rfl)
  refine dk 2 [103,102] [B (!(decide (r28<0))),B (decide (r28<0))] ?_
  refine de 354 rfl rfl ?_
  obtain⟨u29,hu29,h⟩:=lJ h
  have j29:Run (ir aA) 1 Q (.blk 5::.lp Qp::.blk 4::K) (sT 220 [(0,.hs 1 0 [] 1 0 (ao.map I).length),(2,I aY),(4,.fn 118 [.iptr (ai aG) 0]),(14,I u29.1),(15,I u29.2)] [⟨0,1,ao.map I⟩] 2):=by
   refine aq 1 ?_
   refine cX ?_
   exact rf [0,2,4,14,15] [1] (ih _ _ h hr hn :)
  replace h:=hu29
  clear hu29
  refine tM h rfl rfl ?_ ?_<;>intro h
  ·refine cq 5 [14] [I (ac ((IntKind.i64.wrap (ek .u64 (IntKind.u64.wrap (ac (x25.1+x25.2))) 1))+1))] 402 ?_
   subst h
   exact rf [0,2,4,14,15] [1] (j29 :)
  ·refine cq 4 [15] [I (IntKind.i64.wrap (ek .u64 (IntKind.u64.wrap (ac (x25.1+x25.2))) 1))] 386 ?_
   subst h
   exact rf [0,2,4,14,15] [1] (j29 :)
 ·refine aq 1 ?_
  exact rf [0,2,14] [1] (hn _ (an h) :) (hk:=hK)
theorem PF (aA:((List Int)×Int×Int×Int×State)→Option (List Int))(ao:List Int)(aX:Int)(aY:Int)(be:Int)(aG:State)(u30:Int×Int×(List Int)):cg (ir aA) 1 (gI aA (ao,aX,aY,be,aG)) abE 6 (jW aA ao aX aY be aG u30) (fun u=>(sT 220 [] [⟨0,1,u.map I⟩] 2)) fun x31=>(sT 220 [(0,.hs 1 0 [] 1 0 (x31.2.map I).length),(14,I u30.2.1),(17,I x31.1)] [⟨0,1,x31.2.map I⟩] 2):=ef (Ba aA ao aX aY be aG u30) fun {Q K} hK self ih x31 y h hr hn=>by
 unfold jv at h
 refine cq 7 [110] [B (decide (x31.1>u30.2.1))] 50 ?_
 refine sq h ?_ ?_<;>intro h
 ·refine aq 1 ?_
  refine aq 2 ?_
  refine d7 [0,0,0,0,8,0,0,64,224,480,0,0,3072,7168,16355,32739,65535,131071] rfl (by decide +kernel) ?_
  refine dk 8 [120,119,118,117,116,115,114,113] [I (ac (x31.1 - 1)),I x31.1,.hs 1 0 [] 1 0 (x31.2.map I).length,I (ac (x31.1 - 1)),I x31.1,.hs 1 0 [] 1 0 (x31.2.map I).length,I x31.1,.hs 1 0 [] 1 0 (x31.2.map I).length] ?_
  obtain⟨e32,he32,h⟩:=bS h
  refine dq [1] [] (.hp 1 0 [] 1 (0+Int.toNat (ac (x31.1 - 1))) 0) rfl (al rfl rfl rfl (ce (f:=I) (xs:=x31.2) rfl rfl rfl he32)) ?_
  refine dq [1] [] (I e32) rfl (aU rfl (fU (path:=[]) rfl rfl rfl aF (bO (f:=I) (xs:=x31.2) he32) rfl rfl rfl)) ?_
  refine dk 2 [124,123] [I x31.1,.hs 1 0 [] 1 0 (x31.2.map I).length] ?_
  obtain⟨e33,he33,h⟩:=bS h
  refine dq [1] [] (.hp 1 0 [] 1 (0+Int.toNat x31.1) 0) rfl (al rfl rfl rfl (ce (f:=I) (xs:=x31.2) rfl rfl rfl he33)) ?_
  refine dq [1] [] (I e33) rfl (aU rfl (fU (path:=[]) rfl rfl rfl aF (bO (f:=I) (xs:=x31.2) he33) rfl rfl rfl)) ?_
  obtain⟨e34,he34,h⟩:=bS h
  refine dq [1] [] (.hp 1 0 [] 1 (0+Int.toNat x31.1) 0) rfl (al rfl rfl rfl (ce (f:=I) (xs:=x31.2) rfl rfl rfl he34)) ?_
  refine dz [1] [1] rfl (et rfl rfl (dF (path:=[]) (pl:=true) (e':=I e32) (es2':=(bI x31.2 x31.1 e32).map I) rfl (ba rfl) rfl rfl rfl aF (bO (f:=I) (xs:=x31.2) he34) rfl rfl rfl (gB (f:=I) (xs:=x31.2) (y:=e32)) cJ 0 rfl)) ?_
  try rw[←fK (f:=I) (xs:=x31.2) (i:=x31.1) (z:=e32)]
  obtain⟨e37,he37,h⟩:=bS h
  refine dq [1] [] (.hp 1 0 [] 1 (0+Int.toNat (ac (x31.1 - 1))) 0) rfl (al rfl rfl rfl (ce (f:=I) (xs:=(bI x31.2 x31.1 e32)) rfl rfl rfl he37)) ?_
  obtain⟨rw38,hrw38,h⟩:=lJ h
  refine dz [1] [1] rfl (et rfl rfl (dF (path:=[]) (pl:=true) (e':=I e33) (es2':=(rw38).map I) rfl (ba rfl) rfl rfl rfl aF (bO (f:=I) (xs:=(bI x31.2 x31.1 e32)) he37) rfl rfl rfl (fM (f:=I) (xs:=(bI x31.2 x31.1 e32)) (y:=e33) hrw38) cJ 0 rfl)) ?_
  try rw[←eE hrw38 (f:=I) (xs:=(bI x31.2 x31.1 e32))]
  refine de 338 rfl rfl ?_
  refine cq 6 [17] [I (ac (x31.1 - 1))] 386 ?_
  refine cX ?_
  exact rf [0,14,17] [1] (ih _ _ h hr hn :)
 ·refine aq 1 ?_
  exact rf [] [1] (hn _ (an h) :) (hk:=hK)
theorem PG (aA:((List Int)×Int×Int×Int×State)→Option (List Int))(ao:List Int)(aX:Int)(aY:Int)(be:Int)(aG:State):cg (ir aA) 1 (gI aA (ao,aX,aY,be,aG)) Qq 8 (rV aA ao aX aY be aG) (fun u=>(sT 220 [(0,.hs 1 0 [] 1 0 (ao.map I).length),(1,I aX),(2,I aY),(3,I u.1),(4,.fn 118 [.iptr (ai aG) 0]),(18,I u.2.1),(19,I u.2.2.1),(20,I u.2.2.2)] [⟨0,1,ao.map I⟩] 2)) fun x45=>(sT 220 [(0,.hs 1 0 [] 1 0 (ao.map I).length),(1,I aX),(2,I aY),(3,I be),(4,.fn 118 [.iptr (ai aG) 0]),(18,I (IntKind.i64.wrap (ek .u64 (IntKind.u64.wrap (ac (aX+be))) 1))),(19,I (ac ((IntKind.i64.wrap (ek .u64 (IntKind.u64.wrap (ac (aX+be))) 1))+aY))),(20,I x45.1),(21,I x45.2),(22,I (ac ((ac ((IntKind.i64.wrap (ek .u64 (IntKind.u64.wrap (ac (aX+be))) 1))+aY)) - 1)))] [⟨0,1,ao.map I⟩] 2):=ef (Bb aA ao aX aY be aG) fun {Q K} hK self ih x45 y h hr hn=>by
 unfold ky at h
 refine cq 7 [151] [B (decide (x45.1<x45.2))] 50 ?_
 refine sq h ?_ ?_<;>intro h
 ·refine aq 1 ?_
  refine cq 12 [23] [I (IntKind.i64.wrap (ek .u64 (IntKind.u64.wrap (ac (x45.1+x45.2))) 1))] 162 ?_
  refine d7 [0,0,0,0,12,30,62,0,0,384,896,2047,4095,8191] rfl (by decide +kernel) ?_
  refine dk 5 [162,161,160,159,158] [I (ac ((ac ((ac ((IntKind.i64.wrap (ek .u64 (IntKind.u64.wrap (ac (aX+be))) 1))+aY)) - 1)) - (IntKind.i64.wrap (ek .u64 (IntKind.u64.wrap (ac (x45.1+x45.2))) 1)))),I (IntKind.i64.wrap (ek .u64 (IntKind.u64.wrap (ac (x45.1+x45.2))) 1)),I (ac ((ac ((IntKind.i64.wrap (ek .u64 (IntKind.u64.wrap (ac (aX+be))) 1))+aY)) - 1)),.hs 1 0 [] 1 0 (ao.map I).length,.fn 118 [.iptr (ai aG) 0]] ?_
  obtain⟨e46,he46,h⟩:=bS h
  refine dq [1] [] (.hp 1 0 [] 1 (0+Int.toNat (ac ((ac ((ac ((IntKind.i64.wrap (ek .u64 (IntKind.u64.wrap (ac (aX+be))) 1))+aY)) - 1)) - (IntKind.i64.wrap (ek .u64 (IntKind.u64.wrap (ac (x45.1+x45.2))) 1))))) 0) rfl (al rfl rfl rfl (ce (f:=I) (xs:=ao) rfl rfl rfl he46)) ?_
  refine dq [1] [] (I e46) rfl (aU rfl (fU (path:=[]) rfl rfl rfl aF (bO (f:=I) (xs:=ao) he46) rfl rfl rfl)) ?_
  refine dk 2 [166,165] [I (IntKind.i64.wrap (ek .u64 (IntKind.u64.wrap (ac (x45.1+x45.2))) 1)),.hs 1 0 [] 1 0 (ao.map I).length] ?_
  obtain⟨e47,he47,h⟩:=bS h
  refine dq [1] [] (.hp 1 0 [] 1 (0+Int.toNat (IntKind.i64.wrap (ek .u64 (IntKind.u64.wrap (ac (x45.1+x45.2))) 1))) 0) rfl (al rfl rfl rfl (ce (f:=I) (xs:=ao) rfl rfl rfl he47)) ?_
  refine dq [1] [] (I e47) rfl (aU rfl (fU (path:=[]) rfl rfl rfl aF (bO (f:=I) (xs:=ao) he47) rfl rfl rfl)) ?_
  obtain⟨r48,hr48,h⟩:=bS h
  refine dq [] [] (I r48) rfl (cP (tu hr48)) ?_ (dZ rfl rfl rfl rfl (bg (bW rfl) (bg (bW rfl) (bg (bW rfl) dj))) (tu hr48) (.inr rfl) rfl)
  refine dk 2 [171,170] [B (!(decide (r48<0))),B (decide (r48<0))] ?_
  refine de 386 rfl rfl ?_
  obtain⟨u49,hu49,h⟩:=lJ h
  have j49:Run (ir aA) 1 Q (.blk 9::.lp Qq::.blk 8::K) (sT 220 [(0,.hs 1 0 [] 1 0 (ao.map I).length),(1,I aX),(2,I aY),(3,I be),(4,.fn 118 [.iptr (ai aG) 0]),(18,I (IntKind.i64.wrap (ek .u64 (IntKind.u64.wrap (ac (aX+be))) 1))),(19,I (ac ((IntKind.i64.wrap (ek .u64 (IntKind.u64.wrap (ac (aX+be))) 1))+aY))),(20,I u49.1),(21,I u49.2),(22,I (ac ((ac ((IntKind.i64.wrap (ek .u64 (IntKind.u64.wrap (ac (aX+be))) 1))+aY)) - 1)))] [⟨0,1,ao.map I⟩] 2):=by
   refine aq 1 ?_
   refine cX ?_
   exact rf [0,1,2,3,4,18,19,20,21,22] [1] (ih _ _ h hr hn :)
  replace h:=hu49
  clear hu49
  refine tM h rfl rfl ?_ ?_<;>intro h
  ·refine cq 5 [20] [I (ac ((IntKind.i64.wrap (ek .u64 (IntKind.u64.wrap (ac (x45.1+x45.2))) 1))+1))] 434 ?_
   subst h
   exact rf [0,1,2,3,4,18,19,20,21,22] [1] (j49 :)
  ·refine cq 4 [21] [I (IntKind.i64.wrap (ek .u64 (IntKind.u64.wrap (ac (x45.1+x45.2))) 1))] 418 ?_
   subst h
   exact rf [0,1,2,3,4,18,19,20,21,22] [1] (j49 :)
 ·refine aq 1 ?_
  exact rf [0,1,2,3,4,18,19,20] [1] (hn _ (an h) :) (hk:=hK)
theorem YY (aA:((List Int)×Int×Int×Int×State)→Option (List Int))(ao:List Int)(aX:Int)(aY:Int)(be:Int)(aG:State)(r:(List Int))(h:vb aA ao aX aY be aG=some r):bx (ir aA) Tryz.f181 [true,false,false,false,false] 1 (ye (ao,aX,aY,be,aG)) (yf r):=by
 show Run _ _ (gI aA (ao,aX,aY,be,aG) r) [.code pc] _
 refine rI 220 [(0,.hs 1 0 [] 1 0 (ao.map I).length),(1,I aX),(2,I aY),(3,I be),(4,.fn 118 [.iptr (ai aG) 0])] [(1,some ⟨0,1,ao.map I⟩)] 2 ?_
 unfold vb at h
 refine cq 8 [28] [B ((ac (aY - aX))==1)] 66 ?_
 refine sq h ?_ ?_<;>intro h
 ·refine cq 12 [10,11] [I aY,I be] 130 ?_
  obtain⟨y11,hy11,hy111,hy112⟩:=bJ h
  refine bM rfl ?_
  refine rf [0,1,4,10,11] [1] (PC aA ao aX aY be aG rfl (aY,be) _ hy11 (fun r' e st hq=>by rw[hy111 r' e] at hq;exact hq) fun u11 hu=>?_)
  replace h:=hy112 u11 hu
  refine cq 7 [13] [I u11.1] 34 ?_
  obtain⟨y23,hy23,hy231,hy232⟩:=bJ h
  refine bM rfl ?_
  refine rf [0,10,13] [1] (PD aA ao aX aY be aG u11 rfl (u11.1,u11.2.2) _ hy23 (fun r' e st hq=>by rw[hy231 r' e] at hq;exact hq) fun u23 hu=>?_)
  replace h:=hy232 u23 hu
  obtain⟨g24,h⟩:=gG h
  obtain rfl:=sI h
  exact ca rfl ⟨_,fin (vs:=[]) rfl d3 rfl (jk rfl (ki (f:=I) (xs:=u23) (by simpa using g24) rfl) (cz (cz (cz (cz eP))))),qj eI⟩
 ·refine aq 1 ?_
  refine cq 8 [80] [B ((ac (be - aY))==1)] 130 ?_
  refine sq h ?_ ?_<;>intro h
  ·refine cq 12 [14,15] [I aX,I aY] 194 ?_
   obtain⟨y30,hy30,hy301,hy302⟩:=bJ h
   refine bM rfl ?_
   refine rf [0,2,4,14,15] [1] (PE aA ao aX aY be aG rfl (aX,aY) _ hy30 (fun r' e st hq=>by rw[hy301 r' e] at hq;exact hq) fun u30 hu=>?_)
   replace h:=hy302 u30 hu
   refine cq 7 [17] [I u30.1] 34 ?_
   obtain⟨y42,hy42,hy421,hy422⟩:=bJ h
   refine bM rfl ?_
   refine rf [0,14,17] [1] (PF aA ao aX aY be aG u30 rfl (u30.1,u30.2.2) _ hy42 (fun r' e st hq=>by rw[hy421 r' e] at hq;exact hq) fun u42 hu=>?_)
   replace h:=hy422 u42 hu
   obtain⟨g43,h⟩:=gG h
   obtain rfl:=sI h
   exact ca rfl ⟨_,fin (vs:=[]) rfl d3 rfl (jk rfl (ki (f:=I) (xs:=u42) (by simpa using g43) rfl) (cz (cz (cz (cz eP))))),qj eI⟩
  ·refine aq 1 ?_
   refine cq 29 [18,19,140] [I (IntKind.i64.wrap (ek .u64 (IntKind.u64.wrap (ac (aX+be))) 1)),I (ac ((IntKind.i64.wrap (ek .u64 (IntKind.u64.wrap (ac (aX+be))) 1))+aY)),B (decide (aY>(IntKind.i64.wrap (ek .u64 (IntKind.u64.wrap (ac (aX+be))) 1))))] 386 ?_
   obtain⟨u44,hu44,h⟩:=lJ h
   have j44:Run (ir aA) 1 (gI aA (ao,aX,aY,be,aG) r) (.code (cR (cR (cR (cR (cR (cR pc))))))::[]) (sT 220 [(0,.hs 1 0 [] 1 0 (ao.map I).length),(1,I aX),(2,I aY),(3,I be),(4,.fn 118 [.iptr (ai aG) 0]),(18,I (IntKind.i64.wrap (ek .u64 (IntKind.u64.wrap (ac (aX+be))) 1))),(19,I (ac ((IntKind.i64.wrap (ek .u64 (IntKind.u64.wrap (ac (aX+be))) 1))+aY))),(20,I u44.1),(21,I u44.2)] [⟨0,1,ao.map I⟩] 2):=by
    refine cq 8 [22] [I (ac ((ac ((IntKind.i64.wrap (ek .u64 (IntKind.u64.wrap (ac (aX+be))) 1))+aY)) - 1))] 50 ?_
    obtain⟨y50,hy50,hy501,hy502⟩:=bJ h
    refine bM rfl ?_
    refine rf [0,1,2,3,4,18,19,20,21,22] [1] (PG aA ao aX aY be aG rfl (u44.1,u44.2) _ hy50 (fun r' e st hq=>by rw[hy501 r' e] at hq;exact hq) fun u50 hu=>?_)
    replace h:=hy502 u50 hu
    refine cq 14 [24,181] [I (ac (u50.2.2.1 - u50.2.2.2)),B (decide (u50.2.2.2<aY))] 130 ?_
    obtain⟨u51,hu51,h⟩:=lJ h
    have j51:Run (ir aA) 1 (gI aA (ao,aX,aY,be,aG) r) (.code (cR (cL (cR (cR (cR (cR (cR (cR (cR (cR (cR pc)))))))))))::.code zG::[]) (sT 220 [(0,.hs 1 0 [] 1 0 (ao.map I).length),(1,I aX),(2,I aY),(3,I u50.1),(4,.fn 118 [.iptr (ai aG) 0]),(18,I u50.2.1),(20,I u50.2.2.2),(24,I (ac (u50.2.2.1 - u50.2.2.2))),(185,B u51)] [⟨0,1,ao.map I⟩] 2):=by
     obtain⟨y52,hy52,hy521,hy522⟩:=bJ h
     have j52:∀u52,y52=.inr u52→Run (ir aA) 1 (gI aA (ao,aX,aY,be,aG) r) (.code zG::[]) (sT 220 [(0,.hs 1 0 [] 1 0 (u52.map I).length),(1,I aX),(3,I u50.1),(4,.fn 118 [.iptr (ai aG) 0]),(18,I u50.2.1),(20,I u50.2.2.2),(24,I (ac (u50.2.2.1 - u50.2.2.2)))] [⟨0,1,u52.map I⟩] 2):=by
      intro u52 hu
      replace h:=hy522 u52 hu
      refine cq 7 [195] [B (decide (aX<u50.2.2.2))] 66 ?_
      obtain⟨u53,hu53,h⟩:=lJ h
      have j53:Run (ir aA) 1 (gI aA (ao,aX,aY,be,aG) r) (.code (cR (cL zG))::.code Jm::[]) (sT 220 [(0,.hs 1 0 [] 1 0 (u52.map I).length),(1,I aX),(3,I u50.1),(4,.fn 118 [.iptr (ai aG) 0]),(18,I u50.2.1),(20,I u50.2.2.2),(24,I (ac (u50.2.2.1 - u50.2.2.2))),(199,B u53)] [⟨0,1,u52.map I⟩] 2):=by
       obtain⟨y54,hy54,hy541,hy542⟩:=bJ h
       have j54:∀u54,y54=.inr u54→Run (ir aA) 1 (gI aA (ao,aX,aY,be,aG) r) (.code Jm::[]) (sT 220 [(0,.hs 1 0 [] 1 0 (u54.map I).length),(3,I u50.1),(4,.fn 118 [.iptr (ai aG) 0]),(18,I u50.2.1),(24,I (ac (u50.2.2.1 - u50.2.2.2)))] [⟨0,1,u54.map I⟩] 2):=by
        intro u54 hu
        replace h:=hy542 u54 hu
        refine cq 6 [209] [B (decide (u50.2.1<(ac (u50.2.2.1 - u50.2.2.2))))] 66 ?_
        obtain⟨u55,hu55,h⟩:=lJ h
        have j55:Run (ir aA) 1 (gI aA (ao,aX,aY,be,aG) r) (.code (cR Jm)::[]) (sT 220 [(0,.hs 1 0 [] 1 0 (u54.map I).length),(3,I u50.1),(4,.fn 118 [.iptr (ai aG) 0]),(18,I u50.2.1),(24,I (ac (u50.2.2.1 - u50.2.2.2))),(213,B u55)] [⟨0,1,u54.map I⟩] 2):=by
         obtain⟨y56,hy56,hy561,hy562⟩:=bJ h
         have j56:∀u56,y56=.inr u56→Run (ir aA) 1 (gI aA (ao,aX,aY,be,aG) r) ([]) (sT 220 [] [⟨0,1,u56.map I⟩] 2):=by
          intro u56 hu
          replace h:=hy562 u56 hu
          obtain⟨g57,h⟩:=gG h
          obtain rfl:=sI h
          exact Ac ⟨_,fin (vs:=[]) rfl d3 rfl (jk rfl (ki (f:=I) (xs:=u56) (by simpa using g57) rfl) (cz (cz (cz (cz eP))))),qj eI⟩
         have r56:∀r',y56=.inl r'→∀st,gI aA (ao,aX,aY,be,aG) r' st→(gI aA (ao,aX,aY,be,aG) r) st:=fun r' e st hq=>by rw[hy561 r' e] at hq;exact hq
         replace h:=hy56
         refine sq h ?_ ?_<;>intro h
         ·refine cq 6 [214,215,216,217,218] [.hs 1 0 [] 1 0 (u54.map I).length,I u50.2.1,I (ac (u50.2.2.1 - u50.2.2.2)),I u50.1,.fn 118 [.iptr (ai aG) 0]] 82 ?_
          obtain⟨r58,hr58,h⟩:=bS h
          obtain⟨g59,h⟩:=gG h
          refine oq 98 (.tup []) rfl (bK rfl rfl (b8 rfl rfl rfl (iE (iI rfl (eJ (path:=[]) rfl rfl aF rfl)) (bg (bW rfl) (bg (bW rfl) (bg (bW rfl) (bg (oZ (dE (f6 rfl) gQ)) dj))))) (Jl aA hr58) (.inr rfl) (gE rfl rfl rfl rfl dK) rfl rfl rfl)) ?_
          try rw[eA (f:=I) (xs:=u54) (ys:=r58) g59]
          refine aq 1 ?_
          exact rf [] [1] (j56 _ (an h) :)
         ·refine aq 1 ?_
          exact rf [] [1] (j56 _ (an h) :)
        replace h:=hu55
        clear hu55
        refine sp 209 h rfl ?_ ?_<;>intro h
        ·refine cq 5 [213] [B (decide ((ac (u50.2.2.1 - u50.2.2.2))<u50.1))] 130 ?_
         subst h
         exact rf [0,3,4,18,24,213] [1] (j55 :)
        ·refine cq 5 [213] [B false] 130 ?_
         subst h
         exact rf [0,3,4,18,24,213] [1] (j55 :)
       have r54:∀r',y54=.inl r'→∀st,gI aA (ao,aX,aY,be,aG) r' st→(gI aA (ao,aX,aY,be,aG) r) st:=fun r' e st hq=>by rw[hy541 r' e] at hq;exact hq
       replace h:=hy54
       refine sq h ?_ ?_<;>intro h
       ·refine cq 6 [200,201,202,203,204] [.hs 1 0 [] 1 0 (u52.map I).length,I aX,I u50.2.2.2,I u50.2.1,.fn 118 [.iptr (ai aG) 0]] 82 ?_
        obtain⟨r60,hr60,h⟩:=bS h
        obtain⟨g61,h⟩:=gG h
        refine oq 98 (.tup []) rfl (bK rfl rfl (b8 rfl rfl rfl (iE (iI rfl (eJ (path:=[]) rfl rfl aF rfl)) (bg (bW rfl) (bg (bW rfl) (bg (bW rfl) (bg (oZ (dE (f6 rfl) gQ)) dj))))) (Jl aA hr60) (.inr rfl) (gE rfl rfl rfl rfl dK) rfl rfl rfl)) ?_
        try rw[eA (f:=I) (xs:=u52) (ys:=r60) g61]
        refine aq 1 ?_
        exact rf [0,3,4,18,24] [1] (j54 _ (an h) :)
       ·refine aq 1 ?_
        exact rf [0,3,4,18,24] [1] (j54 _ (an h) :)
      replace h:=hu53
      clear hu53
      refine sp 195 h rfl ?_ ?_<;>intro h
      ·refine cq 5 [199] [B (decide (u50.2.2.2<u50.2.1))] 130 ?_
       subst h
       exact rf [0,1,3,4,18,20,24,199] [1] (j53 :)
      ·refine cq 5 [199] [B false] 130 ?_
       subst h
       exact rf [0,1,3,4,18,20,24,199] [1] (j53 :)
     have r52:∀r',y52=.inl r'→∀st,gI aA (ao,aX,aY,be,aG) r' st→(gI aA (ao,aX,aY,be,aG) r) st:=fun r' e st hq=>by rw[hy521 r' e] at hq;exact hq
     replace h:=hy52
     refine sq h ?_ ?_<;>intro h
     ·refine cq 6 [186,187,188,189,190] [.hs 1 0 [] 1 0 (ao.map I).length,I u50.2.2.2,I aY,I (ac (u50.2.2.1 - u50.2.2.2)),.fn 118 [.iptr (ai aG) 0]] 82 ?_
      obtain⟨r62,hr62,h⟩:=bS h
      obtain⟨g63,h⟩:=gG h
      refine oq 98 (.tup []) rfl (bK rfl rfl (b8 rfl rfl rfl (iE (iI rfl (eJ (path:=[]) rfl rfl aF rfl)) (bg (bW rfl) (bg (bW rfl) (bg (bW rfl) (bg (oZ (dE (f6 rfl) gQ)) dj))))) (aew hr62) (.inr rfl) (gE rfl rfl rfl rfl dK) rfl rfl rfl)) ?_
      try rw[eA (f:=I) (xs:=ao) (ys:=r62) g63]
      refine aq 1 ?_
      exact rf [0,1,3,4,18,20,24] [1] (j52 _ (an h) :)
     ·refine aq 1 ?_
      exact rf [0,1,3,4,18,20,24] [1] (j52 _ (an h) :)
    replace h:=hu51
    clear hu51
    refine sp 181 h rfl ?_ ?_<;>intro h
    ·refine cq 5 [185] [B (decide (aY<(ac (u50.2.2.1 - u50.2.2.2))))] 194 ?_
     subst h
     exact rf [0,1,2,3,4,18,20,24,185] [1] (j51 :)
    ·refine cq 5 [185] [B false] 194 ?_
     subst h
     exact rf [0,1,2,3,4,18,20,24,185] [1] (j51 :)
   replace h:=hu44
   clear hu44
   refine tM h rfl rfl ?_ ?_<;>intro h
   ·refine cq 11 [20,21] [I (ac ((ac ((IntKind.i64.wrap (ek .u64 (IntKind.u64.wrap (ac (aX+be))) 1))+aY)) - be)),I (IntKind.i64.wrap (ek .u64 (IntKind.u64.wrap (ac (aX+be))) 1))] 482 ?_
    subst h
    exact rf [0,1,2,3,4,18,19,20,21] [1] (j44 :)
   ·refine cq 9 [20,21] [I aX,I aY] 450 ?_
    subst h
    exact rf [0,1,2,3,4,18,19,20,21] [1] (j44 :)
theorem Vw {G:cb}:b9 G 181 Dg:=jL fun aA g_Ffdm=>gT 5 1 (aN Nx (aN g_Ffdm (aN Vq bB))) cn Tryz.func181 (fun a r h=>YY aA a.1 a.2.1 a.2.2.1 a.2.2.2.1 a.2.2.2.2 r h)
def Gp:((List Int)×Int×State)→List V:=cA (o8 1 I) (cA I (oA (fun x:State=>(.fn 118 [.iptr (bN x) 0]:V))))
def Gq (r:(List Int)):V×List V:=(.tup [],[.usl 1 (r.map I)])
noncomputable def De :=bm [true,false,false] Gp Gq fun x=>Dd x.1 x.2.1 x.2.2
theorem aex {cd:List Int}{n_7:Int}{cl:State}{r}(h:Dd cd n_7 cl=some r):De.F (Gp (cd,n_7,cl))=some (Gq r):=aK (aO (ft bf) (aO bf (aL (jo cw)))) h
noncomputable def M5 :=aI Tryz.f154
noncomputable abbrev zF :=cL (cL (cR (cR (cR (cR M5)))))
noncomputable abbrev abB :=cL (cL (cL (cR (cL (cR zF)))))
noncomputable def uX :=cm [(180,Db),(181,Dg)]
def yd (x:(List Int)×Int×State)(r:(List Int)):St→Prop:=QF uX Tryz.f154 [true,false,false] (Gp x) (Gq r)
theorem Py (cd:List Int)(n_7:Int)(cl:State):cg uX 1 (yd (cd,n_7,cl)) (cL (cL (cL (cR (cR M5))))) 0 (uY cd n_7 cl) (fun u=>(sT 63 [(0,.hs 1 0 [] 1 0 (u.2.2.map I).length),(1,I u.1),(2,.fn 118 [.iptr (ai cl) 0]),(6,I (20)),(7,I u.2.1)] [⟨0,1,u.2.2.map I⟩] 2)) fun x4=>(sT 63 [(0,.hs 1 0 [] 1 0 (x4.2.2.map I).length),(1,I n_7),(2,.fn 118 [.iptr (ai cl) 0]),(6,I (20)),(7,I x4.1),(8,I x4.2.1)] [⟨0,1,x4.2.2.map I⟩] 2):=ef (AY cd n_7 cl) fun {Q K} hK self ih x4 y h hr hn=>by
 unfold kx at h
 refine cq 7 [13] [B (decide (x4.2.1≤n_7))] 50 ?_
 refine sq h ?_ ?_<;>intro h
 ·refine aq 1 ?_
  refine cq 7 [14,15,16,17] [.hs 1 0 [] 1 0 (x4.2.2.map I).length,I x4.1,I x4.2.1,.fn 118 [.iptr (ai cl) 0]] 114 ?_
  obtain⟨r5,hr5,h⟩:=bS h
  obtain⟨g6,h⟩:=gG h
  refine oq 130 (.tup []) rfl (bK rfl rfl (b8 rfl rfl rfl (iE (iI rfl (eJ (path:=[]) rfl rfl aF rfl)) (bg (bW rfl) (bg (bW rfl) (bg (oZ (dE (f6 rfl) gQ)) dj)))) (Vo hr5) (.inr rfl) (gE rfl rfl rfl rfl dK) rfl rfl rfl)) ?_
  try rw[eA (f:=I) (xs:=x4.2.2) (ys:=r5) g6]
  refine cq 13 [7,8] [I x4.2.1,I (ac (x4.2.1+20))] 226 ?_
  refine cX ?_
  exact rf [0,1,2,6,7,8] [1] (ih _ _ h hr hn :)
 ·refine aq 1 ?_
  exact rf [0,1,2,6,7] [1] (hn _ (an h) :) (hk:=hK)
theorem PA (cd:List Int)(n_7:Int)(cl:State)(u7:Int×Int×(List Int))(x10:Int×(List Int)):cg uX 1 (yd (cd,n_7,cl)) abB 4 (va cd n_7 cl u7 x10) (fun u=>(sT 63 [(0,.hs 1 0 [] 1 0 (u.2.map I).length),(1,I u7.1),(2,.fn 118 [.iptr (ai cl) 0]),(6,I x10.1),(7,I u.1)] [⟨0,1,u.2.map I⟩] 2)) fun x11=>(sT 63 [(0,.hs 1 0 [] 1 0 (x11.2.2.map I).length),(1,I u7.1),(2,.fn 118 [.iptr (ai cl) 0]),(6,I x10.1),(7,I x11.1),(8,I x11.2.1)] [⟨0,1,x11.2.2.map I⟩] 2):=ef (A5 cd n_7 cl u7 x10) fun {Q K} hK self ih x11 y h hr hn=>by
 unfold oB at h
 refine cq 7 [35] [B (decide (x11.2.1≤u7.1))] 50 ?_
 refine sq h ?_ ?_<;>intro h
 ·refine aq 1 ?_
  refine cq 10 [36,37,40,41,42] [.hs 1 0 [] 1 0 (x11.2.2.map I).length,I x11.1,I (ac (x11.1+x10.1)),I x11.2.1,.fn 118 [.iptr (ai cl) 0]] 162 ?_
  obtain⟨r12,hr12,h⟩:=bS h
  obtain⟨g13,h⟩:=gG h
  refine oq 178 (.tup []) rfl (bK rfl rfl (b8 rfl rfl rfl (iE (iI rfl (eJ (path:=[]) rfl rfl aF rfl)) (bg (bW rfl) (bg (bW rfl) (bg (bW rfl) (bg (oZ (dE (f6 rfl) gQ)) dj))))) (Vv hr12) (.inr rfl) (gE rfl rfl rfl rfl dK) rfl rfl rfl)) ?_
  try rw[eA (f:=I) (xs:=x11.2.2) (ys:=r12) g13]
  refine cq 14 [7,8] [I x11.2.1,I (ac (x11.2.1+(ac (2*x10.1))))] 290 ?_
  refine cX ?_
  exact rf [0,1,2,6,7,8] [1] (ih _ _ h hr hn :)
 ·refine aq 1 ?_
  exact rf [0,1,2,6,7] [1] (hn _ (an h) :) (hk:=hK)
theorem Pz (cd:List Int)(n_7:Int)(cl:State)(u7:Int×Int×(List Int)):cg uX 1 (yd (cd,n_7,cl)) zF 2 (uZ cd n_7 cl u7) (fun u=>(sT 63 [] [⟨0,1,u.map I⟩] 2)) fun x10=>(sT 63 [(0,.hs 1 0 [] 1 0 (x10.2.map I).length),(1,I u7.1),(2,.fn 118 [.iptr (ai cl) 0]),(6,I x10.1)] [⟨0,1,x10.2.map I⟩] 2):=ef (AZ cd n_7 cl u7) fun {Q K} hK self ih x10 y h hr hn=>by
 unfold jr at h
 refine cq 7 [30] [B (decide (x10.1<u7.1))] 50 ?_
 refine sq h ?_ ?_<;>intro h
 ·refine aq 1 ?_
  refine cq 10 [7,8] [I (0),I (ac (2*x10.1))] 114 ?_
  obtain⟨y14,hy14,hy141,hy142⟩:=bL h
  refine bM rfl ?_
  refine rf [0,1,2,6,7,8] [1] (PA cd n_7 cl u7 x10 rfl (0,(ac (2*x10.1)),x10.2) _ hy14 (fun r' e st hq=>hr r' (hy141 r' e) st hq) fun u14 hu=>?_)
  replace h:=hy142 u14 hu
  refine cq 14 [9,54] [I (ac (u14.1+x10.1)),B (decide ((ac (u14.1+x10.1))<u7.1))] 114 ?_
  obtain⟨y15,hy15,hy151,hy152⟩:=bL h
  have j15:∀u15,y15=.inr u15→Run uX 1 Q (.code (cR (cR (cR (cL (cR zF)))))::.blk 3::.lp zF::.blk 2::K) (sT 63 [(0,.hs 1 0 [] 1 0 (u15.map I).length),(1,I u7.1),(2,.fn 118 [.iptr (ai cl) 0]),(6,I x10.1)] [⟨0,1,u15.map I⟩] 2):=by
   intro u15 hu
   replace h:=hy152 u15 hu
   refine cq 6 [6] [I (ac (x10.1*2))] 50 ?_
   refine cX ?_
   exact rf [0,1,2,6] [1] (ih _ _ h hr hn :)
  have r15:∀r',y15=.inl r'→∀st,yd (cd,n_7,cl) r' st→Q st:=fun r' e st hq=>hr r' (hy151 r' e) st hq
  replace h:=hy15
  refine sq h ?_ ?_<;>intro h
  ·refine cq 6 [55,56,57,58,59] [.hs 1 0 [] 1 0 (u14.2.map I).length,I u14.1,I (ac (u14.1+x10.1)),I u7.1,.fn 118 [.iptr (ai cl) 0]] 194 ?_
   obtain⟨r16,hr16,h⟩:=bS h
   obtain⟨g17,h⟩:=gG h
   refine oq 210 (.tup []) rfl (bK rfl rfl (b8 rfl rfl rfl (iE (iI rfl (eJ (path:=[]) rfl rfl aF rfl)) (bg (bW rfl) (bg (bW rfl) (bg (bW rfl) (bg (oZ (dE (f6 rfl) gQ)) dj))))) (Vv hr16) (.inr rfl) (gE rfl rfl rfl rfl dK) rfl rfl rfl)) ?_
   try rw[eA (f:=I) (xs:=u14.2) (ys:=r16) g17]
   refine aq 1 ?_
   exact rf [0,1,2,6] [1] (j15 _ (an h) :)
  ·refine aq 1 ?_
   exact rf [0,1,2,6] [1] (j15 _ (an h) :)
 ·refine aq 1 ?_
  exact rf [] [1] (hn _ (an h) :) (hk:=hK)
theorem YV (cd:List Int)(n_7:Int)(cl:State)(r:(List Int))(h:Dd cd n_7 cl=some r):bx uX Tryz.f154 [true,false,false] 1 (Gp (cd,n_7,cl)) (Gq r):=by
 show Run _ _ (yd (cd,n_7,cl) r) [.code M5] _
 refine rI 63 [(0,.hs 1 0 [] 1 0 (cd.map I).length),(1,I n_7),(2,.fn 118 [.iptr (ai cl) 0])] [(1,some ⟨0,1,cd.map I⟩)] 2 ?_
 unfold Dd at h
 refine cq 12 [6,7,8] [I (20),I (0),I (20)] 66 ?_
 obtain⟨y7,hy7,hy71,hy72⟩:=bJ h
 refine bM rfl ?_
 refine rf [0,1,2,6,7,8] [1] (Py cd n_7 cl rfl (0,20,cd) _ hy7 (fun r' e st hq=>by rw[hy71 r' e] at hq;exact hq) fun u7 hu=>?_)
 replace h:=hy72 u7 hu
 refine cq 6 [23,24,25,26] [.hs 1 0 [] 1 0 (u7.2.2.map I).length,I u7.2.1,I u7.1,.fn 118 [.iptr (ai cl) 0]] 66 ?_
 obtain⟨r8,hr8,h⟩:=bS h
 obtain⟨g9,h⟩:=gG h
 refine oq 82 (.tup []) rfl (bK rfl rfl (b8 rfl rfl rfl (iE (iI rfl (eJ (path:=[]) rfl rfl aF rfl)) (bg (bW rfl) (bg (bW rfl) (bg (oZ (dE (f6 rfl) gQ)) dj)))) (Vo hr8) (.inr rfl) (gE rfl rfl rfl rfl dK) rfl rfl rfl)) ?_
 try rw[eA (f:=I) (xs:=u7.2.2) (ys:=r8) g9]
 refine aq 2 ?_
 obtain⟨y18,hy18,hy181,hy182⟩:=bJ h
 refine bM rfl ?_
 refine rf [0,1,2,6] [1] (Pz cd n_7 cl u7 rfl (20,r8) _ hy18 (fun r' e st hq=>by rw[hy181 r' e] at hq;exact hq) fun u18 hu=>?_)
 replace h:=hy182 u18 hu
 obtain⟨g19,h⟩:=gG h
 obtain rfl:=sI h
 exact Ac ⟨_,fin (vs:=[]) rfl d3 rfl (jk rfl (ki (f:=I) (xs:=u18) (by simpa using g19) rfl) (cz (cz eP))),qj eI⟩
theorem Vr {G:cb}:b9 G 154 De:=gT 3 1 (aN Vp (aN Vw bB)) cn Tryz.func154 (fun a r h=>YV a.1 a.2.1 a.2.2 r h)
def Gg:((List Int)×State)→List V:=cA (o8 1 I) (oA (fun x:State=>(.fn 118 [.iptr (bN x) 0]:V)))
def Gh (r:(List Int)):V×List V:=(.tup [],[.usl 1 (r.map I)])
noncomputable def Da :=bm [true,false] Gg Gh fun x=>v8 x.1 x.2
theorem aet {x_3:List Int}{qv:State}{r}(h:v8 x_3 qv=some r):Da.F (Gg (x_3,qv))=some (Gh r):=aK (aO (ft bf) (aL (jo cw))) h
noncomputable def aev :=aI Tryz.f117
noncomputable def Vm :=cm [(154,De)]
def aeu (x:(List Int)×State)(r:(List Int)):St→Prop:=QF Vm Tryz.f117 [true,false] (Gg x) (Gh r)
theorem YS (x_3:List Int)(qv:State)(r:(List Int))(h:v8 x_3 qv=some r):bx Vm Tryz.f117 [true,false] 1 (Gg (x_3,qv)) (Gh r):=by
 show Run _ _ (aeu (x_3,qv) r) [.code aev] _
 refine rI 9 [(0,.hs 1 0 [] 1 0 (x_3.map I).length),(1,.fn 118 [.iptr (ai qv) 0])] [(1,some ⟨0,1,x_3.map I⟩)] 2 ?_
 unfold v8 at h
 refine cq 3 [4,5] [.hs 1 0 [] 1 0 (x_3.map I).length,.hs 1 0 [] 1 0 (x_3.map I).length] 34 ?_
 refine oq 50 (I (len x_3)) rfl (bw rfl rfl rfl (mW (f:=I) (xs:=x_3) rfl rfl)) ?_
 refine cq 1 [7] [.fn 118 [.iptr (ai qv) 0]] 66 ?_
 obtain⟨r3,hr3,h⟩:=bS h
 obtain⟨g4,h⟩:=gG h
 refine oq 82 (.tup []) rfl (bK rfl rfl (b8 rfl rfl rfl (iE (iI rfl (eJ (path:=[]) rfl rfl aF rfl)) (bg (bW rfl) (bg (oZ (dE (f6 rfl) gQ)) dj))) (aex hr3) (.inr rfl) (gE rfl rfl rfl rfl dK) rfl rfl rfl)) ?_
 try rw[eA (f:=I) (xs:=x_3) (ys:=r3) g4]
 refine aq 1 ?_
 obtain⟨g5,h⟩:=gG h
 obtain rfl:=sI h
 exact Ac ⟨_,fin (vs:=[]) rfl d3 rfl (jk rfl (ki (f:=I) (xs:=r3) (by simpa using g5) rfl) (cz eP)),qj eI⟩
theorem Vn {G:cb}:b9 G 117 Da:=gT 2 1 (aN Vr bB) cn Tryz.func117 (fun a r h=>YS a.1 a.2 r h)
def LP:(Contract×State×Int)→List V:=cA aV (cA bN (oA (fun x:Int=>(.fn 79 [.iptr (I x) 0]:V))))
def LR (r:(List Int)):V×List V:=(.usl 1 (r.map I),[])
noncomputable def JA :=bm [false,false,false] LP LR fun x=>Ny x.1 x.2.1 x.2.2
theorem afW {c_1:Contract}{s_2:State}{d9:Int}{r}(h:Ny c_1 s_2 d9=some r):JA.F (LP (c_1,s_2,d9))=some (LR r):=aK (aO bv (aO cw (aL (jo bf)))) h
noncomputable def aa4 :=aI Tryz.f70
noncomputable abbrev vw :=cL (cL (cR (cL (cR (cR aa4)))))
noncomputable def HY :=cm [(79,Ju),(117,Da)]
def LQ (x:Contract×State×Int)(r:(List Int)):St→Prop:=QF HY Tryz.f70 [false,false,false] (LP x) (LR r)
theorem RQ (c_1:Contract)(s_2:State)(d9:Int):cg HY 0 (LQ (c_1,s_2,d9)) vw 0 (qM c_1 s_2 d9) (fun u=>(sT 42 [(4,.hp 1 0 [] 5 0 0),(7,.hs 2 0 [] 1 0 (u.map I).length)] [⟨0,5,[ai s_2]⟩,⟨0,1,u.map I⟩] 3)) fun x4=>(sT 42 [(2,.fn 79 [.iptr (I d9) 0]),(3,.hp 1 0 [] 2 0 0),(4,.hp 2 0 [] 5 0 0),(7,.hs 3 0 [] 1 0 (x4.2.map I).length),(12,.isl false (s_2.Duties.map ah)),(13,I (len s_2.Duties)),(14,I x4.1)] [⟨0,2,[aa c_1]⟩,⟨0,5,[ai s_2]⟩,⟨0,1,x4.2.map I⟩] 4):=ef (HZ c_1 s_2 d9) fun {Q K} hK self ih x4 y h hr hn=>by
 unfold nL at h
 refine cq 5 [15] [B (decide (x4.1<(len s_2.Duties)))] 20 ?_
 refine sq h ?_ ?_<;>intro h
 ·refine aq 1 ?_
  refine cq 5 [16] [I x4.1] 36 ?_
  obtain⟨e5,he5,h⟩:=bS h
  refine oq 52 (.iptr (ah e5) 0) rfl (al rfl rfl rfl (bn rfl rfl rfl rfl he5)) ?_
  refine ck 6 [8,9] [] [68] [] [I x4.1,.hp 68 0 [] 4 0 0] [some ⟨0,4,[ah e5]⟩] 116 (by kernel_rfl) ?_
  refine d7 [0,1,3,7,15,15,15,79,15,271,975,1999,4095,8191] rfl (by decide +kernel) ?_
  refine dq [68] [] (.hp 68 0 [] 4 0 3) rfl (ay rfl rfl rfl) ?_
  refine dq [68] [] (I e5.Status) rfl (aU rfl rfl) ?_
  refine dk 2 [22,21] [B (e5.Status==1),B (e5.Status==1)] ?_
  obtain⟨y6,hy6,hy61,hy62⟩:=bL h
  have j6:∀u6,y6=.inr u6→Run HY 0 Q (.code (cR (cR (cL (cL (cR (cR vw))))))::.blk 1::.code (cR (cR (cR vw)))::.lp vw::.blk 0::K) (sT 42 [(2,.fn 79 [.iptr (I d9) 0]),(3,.hp 1 0 [] 2 0 0),(4,.hp 2 0 [] 5 0 0),(7,.hs 3 0 [] 1 0 (x4.2.map I).length),(8,I x4.1),(12,.isl false (s_2.Duties.map ah)),(13,I (len s_2.Duties)),(14,I x4.1),(32,B u6)] [⟨0,2,[aa c_1]⟩,⟨0,5,[ai s_2]⟩,⟨0,1,x4.2.map I⟩] 4):=by
   intro u6 hu
   replace h:=hy62 u6 hu
   obtain⟨y7,hy7,hy71,hy72⟩:=bL h
   have j7:∀u7,y7=.inr u7→Run HY 0 Q (.blk 1::.code (cR (cR (cR vw)))::.lp vw::.blk 0::K) (sT 42 [(2,.fn 79 [.iptr (I d9) 0]),(3,.hp 1 0 [] 2 0 0),(4,.hp 2 0 [] 5 0 0),(7,.hs 3 0 [] 1 0 (u7.map I).length),(12,.isl false (s_2.Duties.map ah)),(13,I (len s_2.Duties)),(14,I x4.1)] [⟨0,2,[aa c_1]⟩,⟨0,5,[ai s_2]⟩,⟨0,1,u7.map I⟩] 4):=by
    intro u7 hu
    replace h:=hy72 u7 hu
    refine cq 5 [14] [I (ac (x4.1+1))] 36 ?_
    refine cX ?_
    exact rf [2,3,4,7,12,13,14] [1,2,3] (ih _ _ h hr hn :)
   have r7:∀r',y7=.inl r'→∀st,LQ (c_1,s_2,d9) r' st→Q st:=fun r' e st hq=>hr r' (hy71 r' e) st hq
   replace h:=hy7
   refine sq h ?_ ?_<;>intro h
   ·refine cq 3 [33,34] [.hs 3 0 [] 1 0 (x4.2.map I).length,I x4.1] 36 ?_
    refine oq 52 (.hs 36 0 [] 1 0 1) rfl (eH rfl (kH (f:=I) (xs:=[]) (z:=I (0)) (es:=[I x4.1]) (ws:=[I x4.1]) rfl rfl rfl (by decide) rfl (dX rfl) rfl)) ?_
    obtain⟨a8,ha8,h⟩:=bS h
    refine oq 68 (.hs 52 0 [] 1 0 (a8.map I).length) rfl (jH rfl rfl rfl rfl rfl (np (path:=[]) (f:=I) (xs:=x4.2) (ys:=[x4.1]) rfl rfl (sf rfl rfl rfl) rfl rfl rfl aF rfl (by decide) qb ha8 rfl ro)) ?_
    refine cq 2 [7] [.hs 52 0 [] 1 0 (a8.map I).length] 84 ?_
    exact rf [2,3,4,7,12,13,14] [1,2,52] (j7 _ (an h) :)
   ·refine aq 1 ?_
    exact rf [2,3,4,7,12,13,14] [1,2,3] (j7 _ (an h) :)
  have r6:∀r',y6=.inl r'→∀st,LQ (c_1,s_2,d9) r' st→Q st:=fun r' e st hq=>hr r' (hy61 r' e) st hq
  replace h:=hy6
  refine sp 22 h rfl ?_ ?_<;>intro h
  ·refine dk 1 [23] [.fn 79 [.iptr (I d9) 0]] ?_
   refine dy [68] [] (ah e5) rfl (aU rfl rfl) ?_
   refine dy [1] [] (.hp 1 0 [] 2 0 1) rfl (ay rfl rfl rfl) ?_
   refine dy [1] [] (.isl false (c_1.Clauses.map au)) rfl (aU rfl rfl) ?_
   refine dy [68] [] (.hp 68 0 [] 4 0 0) rfl (ay rfl rfl rfl) ?_
   refine dy [68] [] (I e5.Clause) rfl (aU rfl rfl) ?_
   obtain⟨e9,he9,h⟩:=bS h
   refine dy [] [] (.iptr (aB e9) 0) rfl (al rfl rfl rfl (bn rfl rfl rfl rfl he9)) ?_
   refine dy [] [] (aB e9) rfl (aU rfl rfl) ?_
   obtain⟨r10,hr10,h⟩:=bS h
   refine dy [] [] (B r10) rfl (cP (aaY hr10)) ?_ (dZ rfl rfl rfl rfl (bg (bW rfl) (bg (bW rfl) (bg (bW rfl) dj))) (aaY hr10) (.inr rfl) rfl)
   refine dk 1 [32] [B r10] ?_
   refine de 340 rfl rfl ?_
   exact rf [2,3,4,7,8,12,13,14,32] [1,2,3] (j6 _ (an h) :)
  ·refine dk 10 [32,31,30,29,28,27,26,25,24,23] [B false,.und,.und,.und,.und,.und,.und,.und,.und,.und] ?_
   refine de 340 rfl rfl ?_
   exact rf [2,3,4,7,8,12,13,14,32] [1,2,3] (j6 _ (an h) :)
 ·refine aq 1 ?_
  exact rf [4,7] [2,3] (hn _ (an h) :) (hk:=hK)
theorem abV (c_1:Contract)(s_2:State)(d9:Int)(r:(List Int))(h:Ny c_1 s_2 d9=some r):bx HY Tryz.f70 [false,false,false] 0 (LP (c_1,s_2,d9)) (LR r):=by
 show Run _ _ (LQ (c_1,s_2,d9) r) [.code aa4] _
 refine rI 42 [(0,aa c_1),(1,ai s_2),(2,.fn 79 [.iptr (I d9) 0])] [] 1 ?_
 unfold Ny at h
 refine ck 8 [3,4] [] [1,17] [] [.hp 1 0 [] 2 0 0,.hp 17 0 [] 5 0 0] [some ⟨0,2,[aa c_1]⟩,some ⟨0,5,[ai s_2]⟩] 49 (by kernel_rfl) ?_
 refine oq 65 (.hs 49 0 [] 1 0 0) rfl (eH rfl (kH (f:=I) (xs:=[]) (z:=I (0)) (es:=[]) (ws:=[]) rfl rfl rfl (by decide) rfl (dX rfl) rfl)) ?_
 refine cq 7 [7,12] [.hs 49 0 [] 1 0 0,.isl false (s_2.Duties.map ah)] 113 ?_
 refine oq 129 (I (len s_2.Duties)) rfl (bw rfl rfl rfl (bR rfl)) ?_
 refine cq 3 [14] [I (0)] 145 ?_
 obtain⟨y11,hy11,hy111,hy112⟩:=bJ h
 refine bM rfl ?_
 refine rf [2,3,4,7,12,13,14] [1,17,49] (RQ c_1 s_2 d9 rfl (0,[]) _ hy11 (fun r' e st hq=>by rw[hy111 r' e] at hq;exact hq) fun u11 hu=>?_)
 replace h:=hy112 u11 hu
 refine cq 4 [38,39] [.hs 2 0 [] 1 0 (u11.map I).length,.fn 118 [.hp 1 0 [] 5 0 0]] 35 ?_
 obtain⟨r12,hr12,h⟩:=bS h
 obtain⟨g13,h⟩:=gG h
 refine oq 51 (.tup []) rfl (bK rfl rfl (b8 rfl rfl rfl (iE (iI rfl (eJ (path:=[]) rfl rfl aF rfl)) (bg (oZ (dE (sY (path:=[]) rfl rfl aF rfl rfl) gQ)) dj)) (aet hr12) (.inl (by simp[cS,dD,str,kL (f:=I) qP])) (gE rfl rfl rfl rfl dK) rfl rfl rfl)) ?_
 try rw[eA (f:=I) (xs:=u11) (ys:=r12) g13]
 refine cq 6 [6] [.hs 2 0 [] 1 0 (r12.map I).length] 83 ?_
 obtain rfl:=sI h
 exact ca rfl ⟨_,fin (vs:=[.hs 2 0 [] 1 0 (r12.map I).length]) rfl (eU (gi rfl (dx rfl rfl)) d3) rfl (cz (cz (cz eP))),eI⟩
theorem ZD {G:cb}:b9 G 70 JA:=gT 3 0 (aN Zx (aN Vn bB)) cn Tryz.func70 (fun a r h=>abV a.1 a.2.1 a.2.2 r h)
def LA:(Contract×State×Int)→List V:=cA aV (cA bN (oA I))
def LC (r:(List Int)×Bool):V×List V:=(.tup [.usl 1 (r.1.map I),B r.2],[])
noncomputable def Jt :=bm [false,false,false] LA LC fun x=>Kp x.1 x.2.1 x.2.2
theorem RJ {c_1:Contract}{s_2:State}{dB:Int}{r}(h:Kp c_1 s_2 dB=some r):Jt.F (LA (c_1,s_2,dB))=some (LC r):=aK (aO bv (aO cw (aL bf))) h
noncomputable def RK :=aI Tryz.f36
noncomputable def RI :=cm [(77,Js),(70,JA),(78,sb)]
def LB (x:Contract×State×Int)(r:(List Int)×Bool):St→Prop:=QF RI Tryz.f36 [false,false,false] (LA x) (LC r)
theorem abL (c_1:Contract)(s_2:State)(dB:Int)(r:(List Int)×Bool)(h:Kp c_1 s_2 dB=some r):bx RI Tryz.f36 [false,false,false] 0 (LA (c_1,s_2,dB)) (LC r):=by
 show Run _ _ (LB (c_1,s_2,dB) r) [.code RK] _
 refine rI 21 [(0,aa c_1),(1,ai s_2),(2,I dB)] [] 1 ?_
 unfold Kp at h
 refine ck 13 [3,4,5,8,9] [] [1,17,33] [] [.hp 1 0 [] 2 0 0,.hp 17 0 [] 5 0 0,.hp 33 0 [] 1 0 0,aa c_1,ai s_2] [some ⟨0,2,[aa c_1]⟩,some ⟨0,5,[ai s_2]⟩,some ⟨0,1,[I dB]⟩] 113 (by kernel_rfl) ?_
 obtain⟨r4,hr4,h⟩:=bS h
 refine oq 129 (B r4) rfl (cP (afK hr4)) ?_
 refine cq 2 [12] [B (!r4)] 161 ?_
 obtain⟨y5,hy5,hy51,hy52⟩:=bJ h
 have j5:∀u5,y5=.inr u5→Run RI 0 (LB (c_1,s_2,dB) r) (.code (cR (cL (cR RK)))::.code (cR (cR RK))::[]) (sT 21 [(3,.hp 1 0 [] 2 0 0),(4,.hp 2 0 [] 5 0 0),(5,.hp 3 0 [] 1 0 0),(16,B u5)] [⟨0,2,[aa c_1]⟩,⟨0,5,[ai s_2]⟩,⟨0,1,[I dB]⟩] 4):=by
  intro u5 hu
  replace h:=hy52 u5 hu
  refine sq h ?_ ?_<;>intro h
  ·refine cq 5 [6,7] [.isl true [],B false] 36 ?_
   refine Q5 6 0 1 52 (.hs 36 0 [] 1 0 0) rfl rfl rfl rfl rfl ?_
   obtain rfl:=sI h
   exact ca rfl ⟨_,fin (vs:=[.hs 36 0 [] 1 0 0,B false]) rfl (eU (gi rfl (dx (k:=0) (es:=[]) rfl rfl)) (eU (ba rfl) d3)) rfl (cz (cz (cz eP))),eI⟩
  ·refine aq 1 ?_
   refine cq 5 [17,18,19] [aa c_1,ai s_2,.fn 79 [.hp 3 0 [] 1 0 0]] 52 ?_
   obtain⟨r6,hr6,h⟩:=bS h
   refine oq 68 (.hs 52 0 [] 1 0 (r6.map I).length) rfl (bK rfl rfl (b8 rfl rfl rfl (bg (bW rfl) (bg (bW rfl) (bg (oZ (dE (sY (path:=[]) rfl rfl aF rfl rfl) gQ)) dj))) (afW hr6) (.inl (by simp[cS,dD,str,kL (f:=I) qP])) dK rfl rfl rfl)) ?_
   refine cq 3 [6,7] [.hs 52 0 [] 1 0 (r6.map I).length,B true] 100 ?_
   obtain rfl:=sI h
   exact ca rfl ⟨_,fin (vs:=[.hs 52 0 [] 1 0 (r6.map I).length,B true]) rfl (eU (gi rfl (dx rfl rfl)) (eU (ba rfl) d3)) rfl (cz (cz (cz eP))),eI⟩
 have r5:∀r',y5=.inl r'→∀st,LB (c_1,s_2,dB) r' st→(LB (c_1,s_2,dB) r) st:=fun r' e st hq=>by rw[hy51 r' e] at hq;exact hq
 replace h:=hy5
 refine sp 12 h rfl ?_ ?_<;>intro h
 ·refine cq 5 [16] [B true] 225 ?_
  exact rf [3,4,5,16] [1,17,33] (j5 _ (an h) :)
 ·refine cq 1 [13] [I dB] 177 ?_
  obtain⟨r7,hr7,h⟩:=bS h
  refine oy 193 (B r7) rfl (cP (tv hr7)) ?_
  refine cq 3 [16] [B (!r7)] 225 ?_
  exact rf [3,4,5,16] [1,17,33] (j5 _ (an h) :)
theorem Zw {G:cb}:b9 G 36 Jt:=gT 3 0 (aN Zv (aN ZD (aN wx bB))) cn Tryz.func36 (fun a r h=>abL a.1 a.2.1 a.2.2 r h)
def EK:((List Int)×(List Int))→List V:=cA (gp I) (oA (gp I))
def EM (r:Bool):V×List V:=(B r,[])
noncomputable def vV :=bm [false,false] EK EM fun x=>tS x.1 x.2
theorem EL {a_1:List Int}{b_2:List Int}{r}(h:tS a_1 b_2=some r):vV.F (EK (a_1,b_2))=some (EM r):=aK (aO (cr bf) (aL (cr bf))) h
noncomputable def Tx :=aI Tryz.f16
noncomputable def My :=cm []
def Tw (x:(List Int)×(List Int))(r:Bool):St→Prop:=QF My Tryz.f16 [false,false] (EK x) (EM r)
theorem O5 (a_1:List Int)(b_2:List Int):cg My 0 (Tw (a_1,b_2)) (cL (cL (cR (cL (cR (cR Tx)))))) 0 (uz a_1 b_2) (fun u=>(sT 26 [] [] 1)) fun x3=>(sT 26 [(0,.isl false (a_1.map I)),(1,.isl false (b_2.map I)),(5,I x3)] [] 1):=ef (Aq a_1 b_2) fun {Q K} hK self ih x3 y h hr hn=>by
 unfold oa at h
 refine cq 5 [11,12] [I x3,.isl false (a_1.map I)] 33 ?_
 refine oq 49 (I (len a_1)) rfl (bw rfl rfl rfl (bR rfl)) ?_
 refine cq 2 [14] [B (decide (x3<(len a_1)))] 65 ?_
 refine sq h ?_ ?_<;>intro h
 ·refine aq 1 ?_
  refine aq 3 ?_
  refine d7 [0,0,3,7,0,0,48,112,255] rfl (by decide +kernel) ?_
  refine dk 2 [18,17] [I x3,.isl false (a_1.map I)] ?_
  obtain⟨e4,he4,h⟩:=bS h
  refine dq [] [] (.iptr (I e4) 0) rfl (al rfl rfl rfl (bn rfl rfl rfl rfl he4)) ?_
  refine dq [] [] (I e4) rfl (aU rfl rfl) ?_
  refine dk 2 [22,21] [I x3,.isl false (b_2.map I)] ?_
  obtain⟨e5,he5,h⟩:=bS h
  refine dq [] [] (.iptr (I e5) 0) rfl (al rfl rfl rfl (bn rfl rfl rfl rfl he5)) ?_
  refine dq [] [] (I e5) rfl (aU rfl rfl) ?_
  refine dk 1 [25] [B (e4 != e5)] ?_
  refine de 209 rfl rfl ?_
  refine sq h ?_ ?_<;>intro h
  ·refine cq 4 [4] [B false] 225 ?_
   exact ca rfl (hr _ (an h) _ (qp [B false]))
  ·refine aq 1 ?_
   refine cq 6 [5] [I (ac (x3+1))] 257 ?_
   refine cX ?_
   exact rf [0,1,5] [] (ih _ _ h hr hn :)
 ·refine aq 1 ?_
  exact rf [] [] (hn _ (an h) :) (hk:=hK)
theorem X5 (a_1:List Int)(b_2:List Int)(r:Bool)(h:tS a_1 b_2=some r):bx My Tryz.f16 [false,false] 0 (EK (a_1,b_2)) (EM r):=by
 show Run _ _ (Tw (a_1,b_2) r) [.code Tx] _
 refine rI 26 [(0,.isl false (a_1.map I)),(1,.isl false (b_2.map I))] [] 1 ?_
 unfold tS at h
 refine cq 8 [6] [.isl false (a_1.map I)] 33 ?_
 refine oq 49 (I (len a_1)) rfl (bw rfl rfl rfl (bR rfl)) ?_
 refine cq 1 [8] [.isl false (b_2.map I)] 65 ?_
 refine oq 81 (I (len b_2)) rfl (bw rfl rfl rfl (bR rfl)) ?_
 refine cq 2 [10] [B ((len a_1) != (len b_2))] 97 ?_
 refine sq h ?_ ?_<;>intro h
 ·refine cq 4 [4] [B false] 113 ?_
  obtain rfl:=sI h
  exact rP [B false]
 ·refine aq 1 ?_
  refine cq 6 [5] [I (0)] 113 ?_
  obtain⟨y6,hy6,hy61,hy62⟩:=bJ h
  refine bM rfl ?_
  refine rf [0,1,5] [] (O5 a_1 b_2 rfl 0 _ hy6 (fun r' e st hq=>by rw[hy61 r' e] at hq;exact hq) fun u6 hu=>?_)
  replace h:=hy62 u6 hu
  refine cq 4 [4] [B true] 17 ?_
  obtain rfl:=sI h
  exact rP [B true]
theorem Kc {G:cb}:b9 G 16 vV:=gT 2 0 bB cn Tryz.func16 (fun a r h=>X5 a.1 a.2 r h)
def EP:((List ae)×(List ae))→List V:=cA (gp str) (oA (gp str))
def EQ (r:Bool):V×List V:=(B r,[])
noncomputable def vW :=bm [false,false] EP EQ fun x=>xE x.1 x.2
theorem TB {a_1:List ae}{b_2:List ae}{r}(h:xE a_1 b_2=some r):vW.F (EP (a_1,b_2))=some (EQ r):=aK (aO (cr bP) (aL (cr bP))) h
noncomputable def TD :=aI Tryz.f49
noncomputable def Mz :=cm []
def TC (x:(List ae)×(List ae))(r:Bool):St→Prop:=QF Mz Tryz.f49 [false,false] (EP x) (EQ r)
theorem O6 (a_1:List ae)(b_2:List ae):cg Mz 0 (TC (a_1,b_2)) (cL (cL (cR (cL (cR (cR TD)))))) 0 (uA a_1 b_2) (fun u=>(sT 26 [] [] 1)) fun x3=>(sT 26 [(0,.isl false (a_1.map str)),(1,.isl false (b_2.map str)),(5,I x3)] [] 1):=ef (Ar a_1 b_2) fun {Q K} hK self ih x3 y h hr hn=>by
 unfold ob at h
 refine cq 5 [11,12] [I x3,.isl false (a_1.map str)] 33 ?_
 refine oq 49 (I (len a_1)) rfl (bw rfl rfl rfl (bR rfl)) ?_
 refine cq 2 [14] [B (decide (x3<(len a_1)))] 65 ?_
 refine sq h ?_ ?_<;>intro h
 ·refine aq 1 ?_
  refine aq 3 ?_
  refine d7 [0,0,3,7,0,0,48,112,255] rfl (by decide +kernel) ?_
  refine dk 2 [18,17] [I x3,.isl false (a_1.map str)] ?_
  obtain⟨e4,he4,h⟩:=bS h
  refine dq [] [] (.iptr (str e4) 0) rfl (al rfl rfl rfl (bn rfl rfl rfl rfl he4)) ?_
  refine dq [] [] (str e4) rfl (aU rfl rfl) ?_
  refine dk 2 [22,21] [I x3,.isl false (b_2.map str)] ?_
  obtain⟨e5,he5,h⟩:=bS h
  refine dq [] [] (.iptr (str e5) 0) rfl (al rfl rfl rfl (bn rfl rfl rfl rfl he5)) ?_
  refine dq [] [] (str e5) rfl (aU rfl rfl) ?_
  refine dk 1 [25] [B (!(e4==e5))] ?_
  refine de 209 rfl rfl ?_
  refine sq h ?_ ?_<;>intro h
  ·refine cq 4 [4] [B false] 225 ?_
   exact ca rfl (hr _ (an h) _ (qp [B false]))
  ·refine aq 1 ?_
   refine cq 6 [5] [I (ac (x3+1))] 257 ?_
   refine cX ?_
   exact rf [0,1,5] [] (ih _ _ h hr hn :)
 ·refine aq 1 ?_
  exact rf [] [] (hn _ (an h) :) (hk:=hK)
theorem X7 (a_1:List ae)(b_2:List ae)(r:Bool)(h:xE a_1 b_2=some r):bx Mz Tryz.f49 [false,false] 0 (EP (a_1,b_2)) (EQ r):=by
 show Run _ _ (TC (a_1,b_2) r) [.code TD] _
 refine rI 26 [(0,.isl false (a_1.map str)),(1,.isl false (b_2.map str))] [] 1 ?_
 unfold xE at h
 refine cq 8 [6] [.isl false (a_1.map str)] 33 ?_
 refine oq 49 (I (len a_1)) rfl (bw rfl rfl rfl (bR rfl)) ?_
 refine cq 1 [8] [.isl false (b_2.map str)] 65 ?_
 refine oq 81 (I (len b_2)) rfl (bw rfl rfl rfl (bR rfl)) ?_
 refine cq 2 [10] [B ((len a_1) != (len b_2))] 97 ?_
 refine sq h ?_ ?_<;>intro h
 ·refine cq 4 [4] [B false] 113 ?_
  obtain rfl:=sI h
  exact rP [B false]
 ·refine aq 1 ?_
  refine cq 6 [5] [I (0)] 113 ?_
  obtain⟨y6,hy6,hy61,hy62⟩:=bJ h
  refine bM rfl ?_
  refine rf [0,1,5] [] (O6 a_1 b_2 rfl 0 _ hy6 (fun r' e st hq=>by rw[hy61 r' e] at hq;exact hq) fun u6 hu=>?_)
  replace h:=hy62 u6 hu
  refine cq 4 [4] [B true] 17 ?_
  obtain rfl:=sI h
  exact rP [B true]
theorem Kd {G:cb}:b9 G 49 vW:=gT 2 0 bB cn Tryz.func49 (fun a r h=>X7 a.1 a.2 r h)
def xA:(Condition×Condition)→List V:=cA bH (oA bH)
def xB (r:Bool):V×List V:=(B r,[])
noncomputable def tg (bz:(Condition×Condition)→Option Bool):Ent:=bm [false,false] xA xB bz
theorem I7 (bz:(Condition×Condition)→Option Bool){x}{r}(h:bz x=some r):(tg bz).F (xA x)=some (xB r):=aK (aO dP (aL dP)) h
def EC:((List Condition)×(List Condition))→List V:=cA (gp aH) (oA (gp aH))
def ED (r:Bool):V×List V:=(B r,[])
noncomputable def Cc (bz:(Condition×Condition)→Option Bool):Ent:=bm [false,false] EC ED fun x=>xC bz x.1 x.2
theorem adg (bz:(Condition×Condition)→Option Bool){a_1:List Condition}{b_2:List Condition}{r}(h:xC bz a_1 b_2=some r):(Cc bz).F (EC (a_1,b_2))=some (ED r):=aK (aO (cr fY) (aL (cr fY))) h
noncomputable def Tk :=aI Tryz.f179
noncomputable def Mw (bz:(Condition×Condition)→Option Bool):Env:=cm [(148,(tg bz))]
def Tj (bz:(Condition×Condition)→Option Bool)(x:(List Condition)×(List Condition))(r:Bool):St→Prop:=QF (Mw bz) Tryz.f179 [false,false] (EC x) (ED r)
theorem O3 (bz:(Condition×Condition)→Option Bool)(a_1:List Condition)(b_2:List Condition):cg (Mw bz) 0 (Tj bz (a_1,b_2)) (cL (cL (cR (cL (cR (cR Tk)))))) 0 (rQ bz a_1 b_2) (fun u=>(sT 27 [] [] 1)) fun x3=>(sT 27 [(0,.isl false (a_1.map aH)),(1,.isl false (b_2.map aH)),(5,I x3)] [] 1):=ef (Ao bz a_1 b_2) fun {Q K} hK self ih x3 y h hr hn=>by
 unfold lM at h
 refine cq 5 [11,12] [I x3,.isl false (a_1.map aH)] 33 ?_
 refine oq 49 (I (len a_1)) rfl (bw rfl rfl rfl (bR rfl)) ?_
 refine cq 2 [14] [B (decide (x3<(len a_1)))] 65 ?_
 refine sq h ?_ ?_<;>intro h
 ·refine aq 1 ?_
  refine aq 3 ?_
  refine d7 [0,0,3,7,0,0,48,112,255,511] rfl (by decide +kernel) ?_
  refine dk 2 [18,17] [I x3,.isl false (a_1.map aH)] ?_
  obtain⟨e4,he4,h⟩:=bS h
  refine dq [] [] (.iptr (ar e4) 0) rfl (al rfl rfl rfl (bn rfl rfl (dI e4) rfl he4)) ?_
  refine dq [] [] (ar e4) rfl (aU rfl rfl) ?_
  refine dk 2 [22,21] [I x3,.isl false (b_2.map aH)] ?_
  obtain⟨e5,he5,h⟩:=bS h
  refine dq [] [] (.iptr (ar e5) 0) rfl (al rfl rfl rfl (bn rfl rfl (dI e5) rfl he5)) ?_
  refine dq [] [] (ar e5) rfl (aU rfl rfl) ?_
  obtain⟨r6,hr6,h⟩:=bS h
  refine dq [] [] (B r6) rfl (bK rfl rfl (b8 rfl rfl rfl (bg (bW rfl) (bg (bW rfl) dj)) (I7 bz hr6) (.inr rfl) dK rfl rfl rfl)) ?_ (dZ rfl rfl rfl rfl (bg (bW rfl) (bg (bW rfl) dj)) (I7 bz hr6) (.inr rfl) rfl)
  refine dk 1 [26] [B (!r6)] ?_
  refine de 225 rfl rfl ?_
  refine sq h ?_ ?_<;>intro h
  ·refine cq 4 [4] [B false] 241 ?_
   exact ca rfl (hr _ (an h) _ (qp [B false]))
  ·refine aq 1 ?_
   refine cq 6 [5] [I (ac (x3+1))] 273 ?_
   refine cX ?_
   exact rf [0,1,5] [] (ih _ _ h hr hn :)
 ·refine aq 1 ?_
  exact rf [] [] (hn _ (an h) :) (hk:=hK)
theorem X1 (bz:(Condition×Condition)→Option Bool)(a_1:List Condition)(b_2:List Condition)(r:Bool)(h:xC bz a_1 b_2=some r):bx (Mw bz) Tryz.f179 [false,false] 0 (EC (a_1,b_2)) (ED r):=by
 show Run _ _ (Tj bz (a_1,b_2) r) [.code Tk] _
 refine rI 27 [(0,.isl false (a_1.map aH)),(1,.isl false (b_2.map aH))] [] 1 ?_
 unfold xC at h
 refine cq 8 [6] [.isl false (a_1.map aH)] 33 ?_
 refine oq 49 (I (len a_1)) rfl (bw rfl rfl rfl (bR rfl)) ?_
 refine cq 1 [8] [.isl false (b_2.map aH)] 65 ?_
 refine oq 81 (I (len b_2)) rfl (bw rfl rfl rfl (bR rfl)) ?_
 refine cq 2 [10] [B ((len a_1) != (len b_2))] 97 ?_
 refine sq h ?_ ?_<;>intro h
 ·refine cq 4 [4] [B false] 113 ?_
  obtain rfl:=sI h
  exact rP [B false]
 ·refine aq 1 ?_
  refine cq 6 [5] [I (0)] 113 ?_
  obtain⟨y7,hy7,hy71,hy72⟩:=bJ h
  refine bM rfl ?_
  refine rf [0,1,5] [] (O3 bz a_1 b_2 rfl 0 _ hy7 (fun r' e st hq=>by rw[hy71 r' e] at hq;exact hq) fun u7 hu=>?_)
  replace h:=hy72 u7 hu
  refine cq 4 [4] [B true] 17 ?_
  obtain rfl:=sI h
  exact rP [B true]
theorem Tl {G:cb}(bz:(Condition×Condition)→Option Bool)(N6:b9 G 148 (tg bz)):b9 G 179 (Cc bz):=gT 2 0 (aN N6 bB) cn Tryz.func179 (fun a r h=>X1 bz a.1 a.2 r h)
noncomputable def Cb :=tg (aJ qH)
theorem adc {a_1:Condition}{b_2:Condition}{r}(h:Ca a_1 b_2=some r):Cb.F (xA (a_1,b_2))=some (xB r):=I7 (aJ qH) h
noncomputable def adf :=aI Tryz.f148
noncomputable def Th (bz:(Condition×Condition)→Option Bool):Env:=cm [(179,(Cc bz))]
def ade (bz:(Condition×Condition)→Option Bool)(x:Condition×Condition)(r:Bool):St→Prop:=QF (Th bz) Tryz.f148 [false,false] (xA x) (xB r)
theorem X0 (bz:(Condition×Condition)→Option Bool)(a_1:Condition)(b_2:Condition)(r:Bool)(h:uu bz a_1 b_2=some r):bx (Th bz) Tryz.f148 [false,false] 0 (xA (a_1,b_2)) (xB r):=by
 show Run _ _ (ade bz (a_1,b_2) r) [.code adf] _
 refine rI 26 [(0,ar a_1),(1,ar b_2)] [] 1 ?_
 unfold uu at h
 refine ck 15 [2,3,9] [] [1,17] [] [.hp 1 0 [] 4 0 0,.hp 17 0 [] 4 0 0,B (a_1.Op != b_2.Op)] [some ⟨0,4,[ar a_1]⟩,some ⟨0,4,[ar b_2]⟩] 129 (by kernel_rfl) ?_
 refine sq h ?_ ?_<;>intro h
 ·refine cq 4 [4] [B false] 145 ?_
  obtain rfl:=sI h
  exact rP [B false]
 ·refine aq 1 ?_
  refine cq 9 [14] [B (!(a_1.Name==b_2.Name))] 209 ?_
  refine sq h ?_ ?_<;>intro h
  ·refine cq 4 [4] [B false] 225 ?_
   obtain rfl:=sI h
   exact rP [B false]
  ·refine aq 1 ?_
   refine cq 9 [19] [B (a_1.Day != b_2.Day)] 289 ?_
   refine sq h ?_ ?_<;>intro h
   ·refine cq 4 [4] [B false] 305 ?_
    obtain rfl:=sI h
    exact rP [B false]
   ·refine aq 1 ?_
    refine cq 7 [21,23] [.isl false (a_1.Parts.map aH),.isl false (b_2.Parts.map aH)] 353 ?_
    obtain⟨r3,hr3,h⟩:=bS h
    refine oq 369 (B r3) rfl (bK rfl rfl (b8 rfl rfl rfl (bg (bW rfl) (bg (bW rfl) dj)) (adg bz hr3) (.inr rfl) dK rfl rfl rfl)) ?_
    refine cq 2 [25] [B (!r3)] 385 ?_
    refine sq h ?_ ?_<;>intro h
    ·refine cq 4 [4] [B false] 401 ?_
     obtain rfl:=sI h
     exact rP [B false]
    ·refine aq 1 ?_
     refine cq 4 [4] [B true] 401 ?_
     obtain rfl:=sI h
     exact rP [B true]
theorem Ti {G:cb}:b9 G 148 Cb:=jL fun bz N6=>gT 2 0 (aN (Tl bz N6) bB) cn Tryz.func148 (fun a r h=>X0 bz a.1 a.2 r h)
def Ey:(Clause×Clause)→List V:=cA au (oA au)
def Ez (r:Bool):V×List V:=(B r,[])
noncomputable def B7 :=bm [false,false] Ey Ez fun x=>xz x.1 x.2
theorem Tc {a_1:Clause}{b_2:Clause}{r}(h:xz a_1 b_2=some r):B7.F (Ey (a_1,b_2))=some (Ez r):=aK (aO dU (aL dU)) h
noncomputable def ada :=aI Tryz.f104
noncomputable def Tb :=cm [(148,Cb)]
def ac9 (x:Clause×Clause)(r:Bool):St→Prop:=QF Tb Tryz.f104 [false,false] (Ey x) (Ez r)
theorem XX (a_1:Clause)(b_2:Clause)(r:Bool)(h:xz a_1 b_2=some r):bx Tb Tryz.f104 [false,false] 0 (Ey (a_1,b_2)) (Ez r):=by
 show Run _ _ (ac9 (a_1,b_2) r) [.code ada] _
 refine rI 51 [(0,aB a_1),(1,aB b_2)] [] 1 ?_
 unfold xz at h
 refine ck 15 [2,3,9] [] [1,17] [] [.hp 1 0 [] 12 0 0,.hp 17 0 [] 12 0 0,B (!(a_1.Id==b_2.Id))] [some ⟨0,12,[aB a_1]⟩,some ⟨0,12,[aB b_2]⟩] 129 (by kernel_rfl) ?_
 refine sq h ?_ ?_<;>intro h
 ·refine cq 4 [4] [B false] 145 ?_
  obtain rfl:=sI h
  exact rP [B false]
 ·refine aq 1 ?_
  refine cq 9 [14] [B (a_1.Kind != b_2.Kind)] 209 ?_
  refine sq h ?_ ?_<;>intro h
  ·refine cq 4 [4] [B false] 225 ?_
   obtain rfl:=sI h
   exact rP [B false]
  ·refine aq 1 ?_
   refine cq 9 [19] [B (a_1.Party != b_2.Party)] 289 ?_
   refine sq h ?_ ?_<;>intro h
   ·refine cq 4 [4] [B false] 305 ?_
    obtain rfl:=sI h
    exact rP [B false]
   ·refine aq 1 ?_
    refine cq 9 [24] [B (!(a_1.Action==b_2.Action))] 369 ?_
    refine sq h ?_ ?_<;>intro h
    ·refine cq 4 [4] [B false] 385 ?_
     obtain rfl:=sI h
     exact rP [B false]
    ·refine aq 1 ?_
     refine cq 9 [29] [B (a_1.Other != b_2.Other)] 449 ?_
     refine sq h ?_ ?_<;>intro h
     ·refine cq 4 [4] [B false] 465 ?_
      obtain rfl:=sI h
      exact rP [B false]
     ·refine aq 1 ?_
      refine cq 9 [34] [B (a_1.Amount != b_2.Amount)] 529 ?_
      refine sq h ?_ ?_<;>intro h
      ·refine cq 4 [4] [B false] 545 ?_
       obtain rfl:=sI h
       exact rP [B false]
      ·refine aq 1 ?_
       refine cq 7 [36,38] [ar a_1.When,ar b_2.When] 593 ?_
       obtain⟨r3,hr3,h⟩:=bS h
       refine oq 609 (B r3) rfl (cP (adc hr3)) ?_
       refine cq 2 [40] [B (!r3)] 625 ?_
       refine sq h ?_ ?_<;>intro h
       ·refine cq 4 [4] [B false] 641 ?_
        obtain rfl:=sI h
        exact rP [B false]
       ·refine aq 1 ?_
        refine cq 9 [45] [B (a_1.Within != b_2.Within)] 705 ?_
        refine sq h ?_ ?_<;>intro h
        ·refine cq 4 [4] [B false] 721 ?_
         obtain rfl:=sI h
         exact rP [B false]
        ·refine aq 1 ?_
         refine cq 9 [50] [B (!(a_1.Repair==b_2.Repair))] 785 ?_
         refine sq h ?_ ?_<;>intro h
         ·refine cq 4 [4] [B false] 801 ?_
          obtain rfl:=sI h
          exact rP [B false]
         ·refine aq 1 ?_
          refine cq 4 [4] [B true] 801 ?_
          obtain rfl:=sI h
          exact rP [B true]
theorem Td {G:cb}:b9 G 104 B7:=gT 2 0 (aN Ti bB) cn Tryz.func104 (fun a r h=>XX a.1 a.2 r h)
def EA:((List Clause)×(List Clause))→List V:=cA (gp au) (oA (gp au))
def EB (r:Bool):V×List V:=(B r,[])
noncomputable def B9 :=bm [false,false] EA EB fun x=>B8 x.1 x.2
theorem adb {a_1:List Clause}{b_2:List Clause}{r}(h:B8 a_1 b_2=some r):B9.F (EA (a_1,b_2))=some (EB r):=aK (aO (cr dU) (aL (cr dU))) h
noncomputable def Tf :=aI Tryz.f50
noncomputable def Mv :=cm [(104,B7)]
def Te (x:(List Clause)×(List Clause))(r:Bool):St→Prop:=QF Mv Tryz.f50 [false,false] (EA x) (EB r)
theorem O2 (a_1:List Clause)(b_2:List Clause):cg Mv 0 (Te (a_1,b_2)) (cL (cL (cR (cL (cR (cR Tf)))))) 0 (ut a_1 b_2) (fun u=>(sT 27 [] [] 1)) fun x3=>(sT 27 [(0,.isl false (a_1.map au)),(1,.isl false (b_2.map au)),(5,I x3)] [] 1):=ef (An a_1 b_2) fun {Q K} hK self ih x3 y h hr hn=>by
 unfold nY at h
 refine cq 5 [11,12] [I x3,.isl false (a_1.map au)] 33 ?_
 refine oq 49 (I (len a_1)) rfl (bw rfl rfl rfl (bR rfl)) ?_
 refine cq 2 [14] [B (decide (x3<(len a_1)))] 65 ?_
 refine sq h ?_ ?_<;>intro h
 ·refine aq 1 ?_
  refine aq 3 ?_
  refine d7 [0,0,3,7,0,0,48,112,255,511] rfl (by decide +kernel) ?_
  refine dk 2 [18,17] [I x3,.isl false (a_1.map au)] ?_
  obtain⟨e4,he4,h⟩:=bS h
  refine dq [] [] (.iptr (aB e4) 0) rfl (al rfl rfl rfl (bn rfl rfl rfl rfl he4)) ?_
  refine dq [] [] (aB e4) rfl (aU rfl rfl) ?_
  refine dk 2 [22,21] [I x3,.isl false (b_2.map au)] ?_
  obtain⟨e5,he5,h⟩:=bS h
  refine dq [] [] (.iptr (aB e5) 0) rfl (al rfl rfl rfl (bn rfl rfl rfl rfl he5)) ?_
  refine dq [] [] (aB e5) rfl (aU rfl rfl) ?_
  obtain⟨r6,hr6,h⟩:=bS h
  refine dq [] [] (B r6) rfl (cP (Tc hr6)) ?_ (dZ rfl rfl rfl rfl (bg (bW rfl) (bg (bW rfl) dj)) (Tc hr6) (.inr rfl) rfl)
  refine dk 1 [26] [B (!r6)] ?_
  refine de 225 rfl rfl ?_
  refine sq h ?_ ?_<;>intro h
  ·refine cq 4 [4] [B false] 241 ?_
   exact ca rfl (hr _ (an h) _ (qp [B false]))
  ·refine aq 1 ?_
   refine cq 6 [5] [I (ac (x3+1))] 273 ?_
   refine cX ?_
   exact rf [0,1,5] [] (ih _ _ h hr hn :)
 ·refine aq 1 ?_
  exact rf [] [] (hn _ (an h) :) (hk:=hK)
theorem XY (a_1:List Clause)(b_2:List Clause)(r:Bool)(h:B8 a_1 b_2=some r):bx Mv Tryz.f50 [false,false] 0 (EA (a_1,b_2)) (EB r):=by
 show Run _ _ (Te (a_1,b_2) r) [.code Tf] _
 refine rI 27 [(0,.isl false (a_1.map au)),(1,.isl false (b_2.map au))] [] 1 ?_
 unfold B8 at h
 refine cq 8 [6] [.isl false (a_1.map au)] 33 ?_
 refine oq 49 (I (len a_1)) rfl (bw rfl rfl rfl (bR rfl)) ?_
 refine cq 1 [8] [.isl false (b_2.map au)] 65 ?_
 refine oq 81 (I (len b_2)) rfl (bw rfl rfl rfl (bR rfl)) ?_
 refine cq 2 [10] [B ((len a_1) != (len b_2))] 97 ?_
 refine sq h ?_ ?_<;>intro h
 ·refine cq 4 [4] [B false] 113 ?_
  obtain rfl:=sI h
  exact rP [B false]
 ·refine aq 1 ?_
  refine cq 6 [5] [I (0)] 113 ?_
  obtain⟨y7,hy7,hy71,hy72⟩:=bJ h
  refine bM rfl ?_
  refine rf [0,1,5] [] (O2 a_1 b_2 rfl 0 _ hy7 (fun r' e st hq=>by rw[hy71 r' e] at hq;exact hq) fun u7 hu=>?_)
  replace h:=hy72 u7 hu
  refine cq 4 [4] [B true] 17 ?_
  obtain rfl:=sI h
  exact rP [B true]
theorem Tg {G:cb}:b9 G 50 B9:=gT 2 0 (aN Td bB) cn Tryz.func50 (fun a r h=>XY a.1 a.2 r h)
def EE:(Contract×Contract)→List V:=cA aV (oA aV)
def EF (r:Bool):V×List V:=(B r,[])
noncomputable def Ce :=bm [false,false] EE EF fun x=>Cd x.1 x.2
theorem Tn {a_1:Contract}{b_2:Contract}{r}(h:Cd a_1 b_2=some r):Ce.F (EE (a_1,b_2))=some (EF r):=aK (aO bv (aL bv)) h
noncomputable def adi :=aI Tryz.f17
noncomputable def Tm :=cm [(49,vW),(50,B9)]
def adh (x:Contract×Contract)(r:Bool):St→Prop:=QF Tm Tryz.f17 [false,false] (EE x) (EF r)
theorem X2 (a_1:Contract)(b_2:Contract)(r:Bool)(h:Cd a_1 b_2=some r):bx Tm Tryz.f17 [false,false] 0 (EE (a_1,b_2)) (EF r):=by
 show Run _ _ (adh (a_1,b_2) r) [.code adi] _
 refine rI 17 [(0,aa a_1),(1,aa b_2)] [] 1 ?_
 unfold Cd at h
 refine ck 13 [2,3,6,8] [] [1,17] [] [.hp 1 0 [] 2 0 0,.hp 17 0 [] 2 0 0,.isl false (a_1.Parties.map str),.isl false (b_2.Parties.map str)] [some ⟨0,2,[aa a_1]⟩,some ⟨0,2,[aa b_2]⟩] 113 (by kernel_rfl) ?_
 obtain⟨r3,hr3,h⟩:=bS h
 refine oq 129 (B r3) rfl (cP (TB hr3)) ?_
 refine cq 2 [10] [B (!r3)] 145 ?_
 refine sq h ?_ ?_<;>intro h
 ·refine cq 4 [4] [B false] 161 ?_
  obtain rfl:=sI h
  exact rP [B false]
 ·refine aq 1 ?_
  refine cq 7 [12,14] [.isl false (a_1.Clauses.map au),.isl false (b_2.Clauses.map au)] 209 ?_
  obtain⟨r4,hr4,h⟩:=bS h
  refine oq 225 (B r4) rfl (cP (adb hr4)) ?_
  refine cq 2 [16] [B (!r4)] 241 ?_
  refine sq h ?_ ?_<;>intro h
  ·refine cq 4 [4] [B false] 257 ?_
   obtain rfl:=sI h
   exact rP [B false]
  ·refine aq 1 ?_
   refine cq 4 [4] [B true] 257 ?_
   obtain rfl:=sI h
   exact rP [B true]
theorem Tp {G:cb}:b9 G 17 Ce:=gT 2 0 (aN Kd (aN Tg bB)) cn Tryz.func17 (fun a r h=>X2 a.1 a.2 r h)
def EG:(Duty×Duty)→List V:=cA ah (oA ah)
def EH (r:Bool):V×List V:=(B r,[])
noncomputable def Cf :=bm [false,false] EG EH fun x=>xD x.1 x.2
theorem Tr {a_1:Duty}{b_2:Duty}{r}(h:xD a_1 b_2=some r):Cf.F (EG (a_1,b_2))=some (EH r):=aK (aO eh (aL eh)) h
noncomputable def adk :=aI Tryz.f113
noncomputable def Tq :=cm []
def adj (x:Duty×Duty)(r:Bool):St→Prop:=QF Tq Tryz.f113 [false,false] (EG x) (EH r)
theorem X3 (a_1:Duty)(b_2:Duty)(r:Bool)(h:xD a_1 b_2=some r):bx Tq Tryz.f113 [false,false] 0 (EG (a_1,b_2)) (EH r):=by
 show Run _ _ (adj (a_1,b_2) r) [.code adk] _
 refine rI 25 [(0,ah a_1),(1,ah b_2)] [] 1 ?_
 unfold xD at h
 refine ck 15 [2,3,9] [] [1,17] [] [.hp 1 0 [] 4 0 0,.hp 17 0 [] 4 0 0,B (a_1.Clause != b_2.Clause)] [some ⟨0,4,[ah a_1]⟩,some ⟨0,4,[ah b_2]⟩] 129 (by kernel_rfl) ?_
 refine sq h ?_ ?_<;>intro h
 ·refine cq 4 [4] [B false] 145 ?_
  obtain rfl:=sI h
  exact rP [B false]
 ·refine aq 1 ?_
  refine cq 9 [14] [B (a_1.Since != b_2.Since)] 209 ?_
  refine sq h ?_ ?_<;>intro h
  ·refine cq 4 [4] [B false] 225 ?_
   obtain rfl:=sI h
   exact rP [B false]
  ·refine aq 1 ?_
   refine cq 9 [19] [B (a_1.Due != b_2.Due)] 289 ?_
   refine sq h ?_ ?_<;>intro h
   ·refine cq 4 [4] [B false] 305 ?_
    obtain rfl:=sI h
    exact rP [B false]
   ·refine aq 1 ?_
    refine cq 9 [24] [B (a_1.Status != b_2.Status)] 369 ?_
    refine sq h ?_ ?_<;>intro h
    ·refine cq 4 [4] [B false] 385 ?_
     obtain rfl:=sI h
     exact rP [B false]
    ·refine aq 1 ?_
     refine cq 4 [4] [B true] 385 ?_
     obtain rfl:=sI h
     exact rP [B true]
theorem Ts {G:cb}:b9 G 113 Cf:=gT 2 0 bB cn Tryz.func113 (fun a r h=>X3 a.1 a.2 r h)
def EI:((List Duty)×(List Duty))→List V:=cA (gp ah) (oA (gp ah))
def EJ (r:Bool):V×List V:=(B r,[])
noncomputable def Ci :=bm [false,false] EI EJ fun x=>Cg x.1 x.2
theorem adl {a_1:List Duty}{b_2:List Duty}{r}(h:Cg a_1 b_2=some r):Ci.F (EI (a_1,b_2))=some (EJ r):=aK (aO (cr eh) (aL (cr eh))) h
noncomputable def Tu :=aI Tryz.f62
noncomputable def Mx :=cm [(113,Cf)]
def Tt (x:(List Duty)×(List Duty))(r:Bool):St→Prop:=QF Mx Tryz.f62 [false,false] (EI x) (EJ r)
theorem O4 (a_1:List Duty)(b_2:List Duty):cg Mx 0 (Tt (a_1,b_2)) (cL (cL (cR (cL (cR (cR Tu)))))) 0 (uw a_1 b_2) (fun u=>(sT 27 [] [] 1)) fun x3=>(sT 27 [(0,.isl false (a_1.map ah)),(1,.isl false (b_2.map ah)),(5,I x3)] [] 1):=ef (Ap a_1 b_2) fun {Q K} hK self ih x3 y h hr hn=>by
 unfold nZ at h
 refine cq 5 [11,12] [I x3,.isl false (a_1.map ah)] 33 ?_
 refine oq 49 (I (len a_1)) rfl (bw rfl rfl rfl (bR rfl)) ?_
 refine cq 2 [14] [B (decide (x3<(len a_1)))] 65 ?_
 refine sq h ?_ ?_<;>intro h
 ·refine aq 1 ?_
  refine aq 3 ?_
  refine d7 [0,0,3,7,0,0,48,112,255,511] rfl (by decide +kernel) ?_
  refine dk 2 [18,17] [I x3,.isl false (a_1.map ah)] ?_
  obtain⟨e4,he4,h⟩:=bS h
  refine dq [] [] (.iptr (ah e4) 0) rfl (al rfl rfl rfl (bn rfl rfl rfl rfl he4)) ?_
  refine dq [] [] (ah e4) rfl (aU rfl rfl) ?_
  refine dk 2 [22,21] [I x3,.isl false (b_2.map ah)] ?_
  obtain⟨e5,he5,h⟩:=bS h
  refine dq [] [] (.iptr (ah e5) 0) rfl (al rfl rfl rfl (bn rfl rfl rfl rfl he5)) ?_
  refine dq [] [] (ah e5) rfl (aU rfl rfl) ?_
  obtain⟨r6,hr6,h⟩:=bS h
  refine dq [] [] (B r6) rfl (cP (Tr hr6)) ?_ (dZ rfl rfl rfl rfl (bg (bW rfl) (bg (bW rfl) dj)) (Tr hr6) (.inr rfl) rfl)
  refine dk 1 [26] [B (!r6)] ?_
  refine de 225 rfl rfl ?_
  refine sq h ?_ ?_<;>intro h
  ·refine cq 4 [4] [B false] 241 ?_
   exact ca rfl (hr _ (an h) _ (qp [B false]))
  ·refine aq 1 ?_
   refine cq 6 [5] [I (ac (x3+1))] 273 ?_
   refine cX ?_
   exact rf [0,1,5] [] (ih _ _ h hr hn :)
 ·refine aq 1 ?_
  exact rf [] [] (hn _ (an h) :) (hk:=hK)
theorem X4 (a_1:List Duty)(b_2:List Duty)(r:Bool)(h:Cg a_1 b_2=some r):bx Mx Tryz.f62 [false,false] 0 (EI (a_1,b_2)) (EJ r):=by
 show Run _ _ (Tt (a_1,b_2) r) [.code Tu] _
 refine rI 27 [(0,.isl false (a_1.map ah)),(1,.isl false (b_2.map ah))] [] 1 ?_
 unfold Cg at h
 refine cq 8 [6] [.isl false (a_1.map ah)] 33 ?_
 refine oq 49 (I (len a_1)) rfl (bw rfl rfl rfl (bR rfl)) ?_
 refine cq 1 [8] [.isl false (b_2.map ah)] 65 ?_
 refine oq 81 (I (len b_2)) rfl (bw rfl rfl rfl (bR rfl)) ?_
 refine cq 2 [10] [B ((len a_1) != (len b_2))] 97 ?_
 refine sq h ?_ ?_<;>intro h
 ·refine cq 4 [4] [B false] 113 ?_
  obtain rfl:=sI h
  exact rP [B false]
 ·refine aq 1 ?_
  refine cq 6 [5] [I (0)] 113 ?_
  obtain⟨y7,hy7,hy71,hy72⟩:=bJ h
  refine bM rfl ?_
  refine rf [0,1,5] [] (O4 a_1 b_2 rfl 0 _ hy7 (fun r' e st hq=>by rw[hy71 r' e] at hq;exact hq) fun u7 hu=>?_)
  replace h:=hy72 u7 hu
  refine cq 4 [4] [B true] 17 ?_
  obtain rfl:=sI h
  exact rP [B true]
theorem Tv {G:cb}:b9 G 62 Ci:=gT 2 0 (aN Ts bB) cn Tryz.func62 (fun a r h=>X4 a.1 a.2 r h)
def EN:(State×State)→List V:=cA bN (oA bN)
def EO (r:Bool):V×List V:=(B r,[])
noncomputable def Ck :=bm [false,false] EN EO fun x=>Cj x.1 x.2
theorem Tz {a_1:State}{b_2:State}{r}(h:Cj a_1 b_2=some r):Ck.F (EN (a_1,b_2))=some (EO r):=aK (aO cw (aL cw)) h
noncomputable def adn :=aI Tryz.f25
noncomputable def Ty :=cm [(49,vW),(62,Ci),(16,vV)]
def adm (x:State×State)(r:Bool):St→Prop:=QF Ty Tryz.f25 [false,false] (EN x) (EO r)
theorem X6 (a_1:State)(b_2:State)(r:Bool)(h:Cj a_1 b_2=some r):bx Ty Tryz.f25 [false,false] 0 (EN (a_1,b_2)) (EO r):=by
 show Run _ _ (adm (a_1,b_2) r) [.code adn] _
 refine rI 33 [(0,ai a_1),(1,ai b_2)] [] 1 ?_
 unfold Cj at h
 refine ck 15 [2,3,9] [] [1,17] [] [.hp 1 0 [] 5 0 0,.hp 17 0 [] 5 0 0,B (a_1.Day != b_2.Day)] [some ⟨0,5,[ai a_1]⟩,some ⟨0,5,[ai b_2]⟩] 129 (by kernel_rfl) ?_
 refine sq h ?_ ?_<;>intro h
 ·refine cq 4 [4] [B false] 145 ?_
  obtain rfl:=sI h
  exact rP [B false]
 ·refine aq 1 ?_
  refine cq 7 [11,13] [.isl false (a_1.Facts.map str),.isl false (b_2.Facts.map str)] 193 ?_
  obtain⟨r3,hr3,h⟩:=bS h
  refine oq 209 (B r3) rfl (cP (TB hr3)) ?_
  refine cq 2 [15] [B (!r3)] 225 ?_
  refine sq h ?_ ?_<;>intro h
  ·refine cq 4 [4] [B false] 241 ?_
   obtain rfl:=sI h
   exact rP [B false]
  ·refine aq 1 ?_
   refine cq 7 [17,19] [.isl false (a_1.Duties.map ah),.isl false (b_2.Duties.map ah)] 289 ?_
   obtain⟨r4,hr4,h⟩:=bS h
   refine oq 305 (B r4) rfl (cP (adl hr4)) ?_
   refine cq 2 [21] [B (!r4)] 321 ?_
   refine sq h ?_ ?_<;>intro h
   ·refine cq 4 [4] [B false] 337 ?_
    obtain rfl:=sI h
    exact rP [B false]
   ·refine aq 1 ?_
    refine cq 7 [23,25] [.isl false (a_1.Balances.map I),.isl false (b_2.Balances.map I)] 385 ?_
    obtain⟨r5,hr5,h⟩:=bS h
    refine oq 401 (B r5) rfl (cP (EL hr5)) ?_
    refine cq 2 [27] [B (!r5)] 417 ?_
    refine sq h ?_ ?_<;>intro h
    ·refine cq 4 [4] [B false] 433 ?_
     obtain rfl:=sI h
     exact rP [B false]
    ·refine aq 1 ?_
     refine cq 9 [32] [B (!(a_1.Over==b_2.Over))] 497 ?_
     refine sq h ?_ ?_<;>intro h
     ·refine cq 4 [4] [B false] 513 ?_
      obtain rfl:=sI h
      exact rP [B false]
     ·refine aq 1 ?_
      refine cq 4 [4] [B true] 513 ?_
      obtain rfl:=sI h
      exact rP [B true]
theorem TA {G:cb}:b9 G 25 Ck:=gT 2 0 (aN Kd (aN Tv (aN Kc bB))) cn Tryz.func25 (fun a r h=>X6 a.1 a.2 r h)
def Fb:Int→List V:=oA I
def Fc (r:ae):V×List V:=(str r,[])
noncomputable def sh :=bm [false] Fb Fc fun x=>pa x
theorem uG {k_1:Int}{r}(h:pa k_1=some r):sh.F (Fb k_1)=some (Fc r):=aK (aL bf) h
noncomputable def T6 :=aI Tryz.f105
noncomputable def MG :=cm []
def T5 (x:Int)(r:ae):St→Prop:=QF MG Tryz.f105 [false] (Fb x) (Fc r)
theorem Pd (k_1:Int):cg MG 0 (T5 k_1) (cL (cL (cL (cR (cR (cR T6)))))) 0 (uH k_1) (fun u=>(sT 20 [(3,str u)] [] 1)) fun x2=>(sT 20 [(0,I x2.1),(3,str x2.2)] [] 1):=ef (AC k_1) fun {Q K} hK self ih x2 y h hr hn=>by
 unfold lT at h
 refine cq 6 [7] [B (decide (x2.1>0))] 33 ?_
 refine sq h ?_ ?_<;>intro h
 ·refine aq 1 ?_
  refine cq 7 [11] [.int .u8 (IntKind.u8.wrap (ac (48+(x2.1.tmod 10))))] 97 ?_
  refine oq 113 (.hs 97 0 [] 1 0 1) rfl (eH rfl (kH (f:=I) (xs:=[]) (z:=.int .u8 (0)) (es:=[.int .u8 (IntKind.u8.wrap (ac (48+(x2.1.tmod 10))))]) (ws:=[.int .u8 (IntKind.u8.wrap (ac (48+(x2.1.tmod 10))))]) rfl rfl rfl (by decide) rfl (dX rfl) rfl)) ?_
  refine oq 129 (str ([(IntKind.u8.wrap (ac (48+(x2.1.tmod 10))))].map fun n=>UInt8.ofNat n.toNat)) rfl (afb rfl (Z0 (xs:=[(IntKind.u8.wrap (ac (48+(x2.1.tmod 10))))]) rfl rfl rfl (agw (path:=[]) rfl rfl aF rfl))) ?_
  refine cq 1 [14] [str x2.2] 145 ?_
  obtain⟨s3,hs3,h⟩:=bS h
  refine oq 161 (str s3) rfl (abk rfl rfl (abg hs3)) ?_
  refine cq 8 [0,3] [I (ac (x2.1.tdiv 10)),str s3] 225 ?_
  refine cX ?_
  exact rf [0,3] [] (ih _ _ h hr hn :)
 ·refine aq 1 ?_
  exact rf [3] [] (hn _ (an h) :) (hk:=hK)
theorem Yh (k_1:Int)(r:ae)(h:pa k_1=some r):bx MG Tryz.f105 [false] 0 (Fb k_1) (Fc r):=by
 show Run _ _ (T5 k_1 r) [.code T6] _
 refine rI 20 [(0,I k_1)] [] 1 ?_
 unfold pa at h
 refine cq 10 [5] [B (decide (k_1≤0))] 49 ?_
 refine sq h ?_ ?_<;>intro h
 ·refine cq 4 [2] [str ([109,48]:ae)] 65 ?_
  obtain rfl:=sI h
  exact rP [str ([109,48]:ae)]
 ·refine aq 1 ?_
  refine cq 6 [3] [str ([]:ae)] 65 ?_
  obtain⟨y4,hy4,hy41,hy42⟩:=bJ h
  refine bM rfl ?_
  refine rf [0,3] [] (Pd k_1 rfl (k_1,([]:ae)) _ hy4 (fun r' e st hq=>by rw[hy41 r' e] at hq;exact hq) fun u4 hu=>?_)
  replace h:=hy42 u4 hu
  refine cq 3 [18] [str u4] 17 ?_
  obtain⟨s5,hs5,h⟩:=bS h
  refine oq 33 (str s5) rfl (abk rfl rfl (abg hs5)) ?_
  refine cq 2 [2] [str s5] 49 ?_
  obtain rfl:=sI h
  exact rP [str s5]
theorem xL {G:cb}:b9 G 105 sh:=gT 1 0 bB cn Tryz.func105 (fun a r h=>Yh a r h)
def E8:((List ae)×Int)→List V:=cA (o8 1 str) (oA I)
def E9 (r:Int×(List ae)):V×List V:=(I r.1,[.usl 1 (r.2.map str)])
noncomputable def vY :=bm [true,false] E8 E9 fun x=>xK x.1 x.2
theorem T1 {a_7:List ae}{k_8:Int}{r}(h:xK a_7 k_8=some r):vY.F (E8 (a_7,k_8))=some (E9 r):=aK (aO (ft bP) (aL bf)) h
noncomputable def T4 :=aI Tryz.f51
noncomputable def MF :=cm [(105,sh)]
def T3 (x:(List ae)×Int)(r:Int×(List ae)):St→Prop:=QF MF Tryz.f51 [true,false] (E8 x) (E9 r)
theorem Pc (a_7:List ae)(k_8:Int):cg MF 1 (T3 (a_7,k_8)) (cL (cL (cR (cL (cR T4))))) 0 (uF a_7 k_8) (fun u=>(sT 20 [(1,I u.1)] [⟨0,1,u.2.map str⟩] 2)) fun x3=>(sT 20 [(0,.hs 1 0 [] 1 0 (x3.2.2.map str).length),(1,I x3.1),(5,I x3.2.1)] [⟨0,1,x3.2.2.map str⟩] 2):=ef (AB a_7 k_8) fun {Q K} hK self ih x3 y h hr hn=>by
 unfold lS at h
 refine cq 5 [6,7] [I x3.2.1,.hs 1 0 [] 1 0 (x3.2.2.map str).length] 34 ?_
 refine oq 50 (I (len x3.2.2)) rfl (bw rfl rfl rfl (mW (f:=str) (xs:=x3.2.2) rfl rfl)) ?_
 refine cq 2 [9] [B (decide (x3.2.1<(len x3.2.2)))] 66 ?_
 refine sq h ?_ ?_<;>intro h
 ·refine aq 1 ?_
  refine cq 7 [12,13,14] [.hs 1 0 [] 1 0 (x3.2.2.map str).length,I x3.2.1,I x3.1] 114 ?_
  obtain⟨r4,hr4,h⟩:=bS h
  refine oq 130 (str r4) rfl (cP (uG hr4)) ?_
  obtain⟨e5,he5,h⟩:=bS h
  refine oq 146 (.hp 1 0 [] 1 (0+Int.toNat x3.2.1) 0) rfl (al rfl rfl rfl (ce (f:=str) (xs:=x3.2.2) rfl rfl rfl he5)) ?_
  refine o0 162 rfl rfl (et rfl rfl (dF (path:=[]) (pl:=true) (e':=str r4) (es2':=(bI x3.2.2 x3.2.1 r4).map str) rfl (ba rfl) rfl rfl rfl aF (bO (f:=str) (xs:=x3.2.2) he5) rfl rfl rfl (gB (f:=str) (xs:=x3.2.2) (y:=r4)) cJ 0 rfl)) ?_
  try rw[←fK (f:=str) (xs:=x3.2.2) (i:=x3.2.1) (z:=r4)]
  refine cq 12 [1,5] [I (ac (x3.1+1)),I (ac (x3.2.1+1))] 258 ?_
  refine cX ?_
  exact rf [0,1,5] [1] (ih _ _ h hr hn :)
 ·refine aq 1 ?_
  exact rf [1] [1] (hn _ (an h) :) (hk:=hK)
theorem Yg (a_7:List ae)(k_8:Int)(r:Int×(List ae))(h:xK a_7 k_8=some r):bx MF Tryz.f51 [true,false] 1 (E8 (a_7,k_8)) (E9 r):=by
 show Run _ _ (T3 (a_7,k_8) r) [.code T4] _
 refine rI 20 [(0,.hs 1 0 [] 1 0 (a_7.map str).length),(1,I k_8)] [(1,some ⟨0,1,a_7.map str⟩)] 2 ?_
 unfold xK at h
 refine cq 10 [5] [I (0)] 34 ?_
 obtain⟨y6,hy6,hy61,hy62⟩:=bJ h
 refine bM rfl ?_
 refine rf [0,1,5] [1] (Pc a_7 k_8 rfl (k_8,0,a_7) _ hy6 (fun r' e st hq=>by rw[hy61 r' e] at hq;exact hq) fun u6 hu=>?_)
 replace h:=hy62 u6 hu
 refine cq 5 [4] [I u6.1] 34 ?_
 obtain⟨g7,h⟩:=gG h
 obtain rfl:=sI h
 exact ca rfl ⟨_,fin (vs:=[I u6.1]) rfl (eU (ba rfl) d3) rfl (jk rfl (ki (f:=str) (xs:=u6.2) (by simpa using g7) rfl) (cz eP)),qj eI⟩
theorem Kf {G:cb}:b9 G 51 vY:=gT 2 1 (aN xL bB) cn Tryz.func51 (fun a r h=>Yg a.1 a.2 r h)
def xG:((List Condition)×Int)→List V:=cA (o8 4 aj) (oA I)
def xH (r:Int×(List Condition)):V×List V:=(I r.1,[.usl 4 (r.2.map aj)])
noncomputable def xI (cF:((List Condition)×Int)→Option (Int×(List Condition))):Ent:=bm [true,false] xG xH cF
theorem Ql (cF:((List Condition)×Int)→Option (Int×(List Condition))){x}{r}(h:cF x=some r):(xI cF).F (xG x)=some (xH r):=aK (aO (ft mm) (aL bf)) h
noncomputable def Co :=xI (aJ lP)
theorem adp {a_6:List Condition}{k_7:Int}{r}(h:Rh a_6 k_7=some r):Co.F (xG (a_6,k_7))=some (xH r):=Ql (aJ lP) h
noncomputable def TN :=aI Tryz.f106
noncomputable def MC (cF:((List Condition)×Int)→Option (Int×(List Condition))):Env:=cm [(105,sh),(106,(xI cF))]
def TM (cF:((List Condition)×Int)→Option (Int×(List Condition)))(x:(List Condition)×Int)(r:Int×(List Condition)):St→Prop:=QF (MC cF) Tryz.f106 [true,false] (xG x) (xH r)
theorem O9 (cF:((List Condition)×Int)→Option (Int×(List Condition)))(a_6:List Condition)(k_7:Int):cg (MC cF) 1 (TM cF (a_6,k_7)) (cL (cL (cR (cL (cR TN))))) 0 (mH cF a_6 k_7) (fun u=>(sT 42 [(1,I u.1)] [⟨0,4,u.2.map aj⟩] 2)) fun x3=>(sT 42 [(0,.hs 1 0 [] 4 0 (x3.2.2.map aj).length),(1,I x3.1),(5,I x3.2.1)] [⟨0,4,x3.2.2.map aj⟩] 2):=ef (Aw cF a_6 k_7) fun {Q K} hK self ih x3 y h hr hn=>by
 unfold ku at h
 refine cq 5 [6,7] [I x3.2.1,.hs 1 0 [] 4 0 (x3.2.2.map aj).length] 34 ?_
 refine oq 50 (I (len x3.2.2)) rfl (bw rfl rfl rfl (mW (f:=aj) (xs:=x3.2.2) rfl rfl)) ?_
 refine cq 2 [9] [B (decide (x3.2.1<(len x3.2.2)))] 66 ?_
 refine sq h ?_ ?_<;>intro h
 ·refine aq 1 ?_
  refine cq 7 [12,13,14] [.hs 1 0 [] 4 0 (x3.2.2.map aj).length,I x3.2.1,I x3.1] 114 ?_
  obtain⟨e4,he4,h⟩:=bS h
  refine oq 130 (.hp 1 0 [] 4 (0+Int.toNat x3.2.1) 0) rfl (al rfl rfl rfl (ce (f:=aj) (xs:=x3.2.2) rfl rfl rfl he4)) ?_
  refine cq 1 [16] [.hp 1 0 [] 4 (0+Int.toNat x3.2.1) 0] 146 ?_
  refine o0 162 rfl rfl (et rfl rfl (dF (path:=[]) (pl:=true) (e':=.agg [I x3.1,str e4.Name,I e4.Day,.usl 4 (e4.Parts.map aj)]) (es2':=(bI x3.2.2 x3.2.1 (Condition.mk x3.1 e4.Name e4.Day e4.Parts)).map aj) rfl (ba rfl) rfl rfl rfl aF (mp (f:=aj) (xs:=x3.2.2) (dJ e4) he4) rfl rfl rfl (Eg (f:=aj) (xs:=x3.2.2) (dJ (Condition.mk x3.1 e4.Name e4.Day e4.Parts))) cJ 0 rfl)) ?_
  try rw[←fK (f:=aj) (xs:=x3.2.2) (i:=x3.2.1) (z:=(Condition.mk x3.1 e4.Name e4.Day e4.Parts))]
  refine cq 12 [1,19,20,21] [I (ac (x3.1+1)),.hs 1 0 [] 4 0 ((bI x3.2.2 x3.2.1 (Condition.mk x3.1 e4.Name e4.Day e4.Parts)).map aj).length,I x3.2.1,I (ac (x3.1+1))] 258 ?_
  obtain⟨r5,hr5,h⟩:=bS h
  refine oq 274 (str r5) rfl (cP (uG hr5)) ?_
  obtain⟨e6,he6,h⟩:=bS h
  refine oq 290 (.hp 1 0 [] 4 (0+Int.toNat x3.2.1) 0) rfl (al rfl rfl rfl (ce (f:=aj) (xs:=(bI x3.2.2 x3.2.1 (Condition.mk x3.1 e4.Name e4.Day e4.Parts))) rfl rfl rfl he6)) ?_
  refine cq 1 [24] [.hp 1 0 [] 4 (0+Int.toNat x3.2.1) 1] 306 ?_
  obtain⟨rw7,hrw7,h⟩:=lJ h
  refine o0 322 rfl rfl (et rfl rfl (dF (path:=[]) (pl:=true) (e':=.agg [I e6.Op,str r5,I e6.Day,.usl 4 (e6.Parts.map aj)]) (es2':=(rw7).map aj) rfl (ba rfl) rfl rfl rfl aF (mp (f:=aj) (xs:=(bI x3.2.2 x3.2.1 (Condition.mk x3.1 e4.Name e4.Day e4.Parts))) (dJ e6) he6) rfl rfl rfl (zt (f:=aj) (xs:=(bI x3.2.2 x3.2.1 (Condition.mk x3.1 e4.Name e4.Day e4.Parts))) (dJ (Condition.mk e6.Op r5 e6.Day e6.Parts)) hrw7) cJ 0 rfl)) ?_
  try rw[←eE hrw7 (f:=aj) (xs:=(bI x3.2.2 x3.2.1 (Condition.mk x3.1 e4.Name e4.Day e4.Parts)))]
  refine cq 12 [1,27,28,29] [I (ac ((ac (x3.1+1))+1)),.hs 1 0 [] 4 0 (rw7.map aj).length,I x3.2.1,I (ac ((ac (x3.1+1))+1))] 418 ?_
  obtain⟨e9,he9,h⟩:=bS h
  refine oq 434 (.hp 1 0 [] 4 (0+Int.toNat x3.2.1) 0) rfl (al rfl rfl rfl (ce (f:=aj) (xs:=rw7) rfl rfl rfl he9)) ?_
  refine cq 1 [31] [.hp 1 0 [] 4 (0+Int.toNat x3.2.1) 2] 450 ?_
  obtain⟨rw10,hrw10,h⟩:=lJ h
  refine o0 466 rfl rfl (et rfl rfl (dF (path:=[]) (pl:=true) (e':=.agg [I e9.Op,str e9.Name,I (ac ((ac (x3.1+1))+1)),.usl 4 (e9.Parts.map aj)]) (es2':=(rw10).map aj) rfl (ba rfl) rfl rfl rfl aF (mp (f:=aj) (xs:=rw7) (dJ e9) he9) rfl rfl rfl (zt (f:=aj) (xs:=rw7) (dJ (Condition.mk e9.Op e9.Name (ac ((ac (x3.1+1))+1)) e9.Parts)) hrw10) cJ 0 rfl)) ?_
  try rw[←eE hrw10 (f:=aj) (xs:=rw7)]
  refine cq 10 [1,34,35] [I (ac ((ac ((ac (x3.1+1))+1))+1)),.hs 1 0 [] 4 0 (rw10.map aj).length,I x3.2.1] 546 ?_
  obtain⟨e13,he13,h⟩:=bS h
  refine oq 562 (.hp 1 0 [] 4 (0+Int.toNat x3.2.1) 0) rfl (al rfl rfl rfl (ce (f:=aj) (xs:=rw10) rfl rfl rfl he13)) ?_
  refine cq 1 [37] [.hp 1 0 [] 4 (0+Int.toNat x3.2.1) 3] 578 ?_
  refine oq 594 (.hs 1 0 [((0+Int.toNat x3.2.1),3)] 4 0 (e13.Parts.map aj).length) rfl (aU rfl (fU (path:=[]) rfl rfl rfl aF (mp (f:=aj) (xs:=rw10) (dJ e13) he13) rfl rfl rfl)) ?_
  refine cq 1 [39] [I (ac ((ac ((ac (x3.1+1))+1))+1))] 610 ?_
  obtain⟨r14,hr14,h⟩:=bS h
  obtain⟨g15,h⟩:=gG h
  obtain⟨rw16,hrw16,h⟩:=lJ h
  refine oq 626 (I r14.1) rfl (bK rfl rfl (b8 rfl rfl rfl (iE (iI rfl (eJ (path:=[((0+Int.toNat x3.2.1),3)]) rfl rfl (eF (mp (f:=aj) (xs:=rw10) (dJ e13) he13) rfl aF) rfl)) (bg (bW rfl) dj)) (Ql cF hr14) (.inr rfl) (gE rfl rfl rfl (DV (eF (mp (f:=aj) (xs:=rw10) (dJ e13) he13) rfl aF) (eA (f:=aj) (xs:=e13.Parts) (ys:=r14.2) g15).symm (Ei (mp (f:=aj) (xs:=rw10) (dJ e13) he13) rfl cJ (rfl:(_:V)=.agg [I e13.Op,str e13.Name,I e13.Day,.usl 4 (r14.2.map aj)]) (zt (f:=aj) (xs:=rw10) (dJ (Condition.mk e13.Op e13.Name e13.Day r14.2)) hrw16))) dK) rfl rfl rfl)) ?_
  try rw[eA (f:=aj) (xs:=e13.Parts) (ys:=r14.2) g15]
  try rw[←eE hrw16 (f:=aj) (xs:=rw10)]
  refine cq 8 [1,5] [I r14.1,I (ac (x3.2.1+1))] 690 ?_
  refine cX ?_
  exact rf [0,1,5] [1] (ih _ _ h hr hn :)
 ·refine aq 1 ?_
  exact rf [1] [1] (hn _ (an h) :) (hk:=hK)
theorem Yb (cF:((List Condition)×Int)→Option (Int×(List Condition)))(a_6:List Condition)(k_7:Int)(r:Int×(List Condition))(h:uC cF a_6 k_7=some r):bx (MC cF) Tryz.f106 [true,false] 1 (xG (a_6,k_7)) (xH r):=by
 show Run _ _ (TM cF (a_6,k_7) r) [.code TN] _
 refine rI 42 [(0,.hs 1 0 [] 4 0 (a_6.map aj).length),(1,I k_7)] [(1,some ⟨0,4,a_6.map aj⟩)] 2 ?_
 unfold uC at h
 refine cq 10 [5] [I (0)] 34 ?_
 obtain⟨y20,hy20,hy201,hy202⟩:=bJ h
 refine bM rfl ?_
 refine rf [0,1,5] [1] (O9 cF a_6 k_7 rfl (k_7,0,a_6) _ hy20 (fun r' e st hq=>by rw[hy201 r' e] at hq;exact hq) fun u20 hu=>?_)
 replace h:=hy202 u20 hu
 refine cq 5 [4] [I u20.1] 34 ?_
 obtain⟨g21,h⟩:=gG h
 obtain rfl:=sI h
 exact ca rfl ⟨_,fin (vs:=[I u20.1]) rfl (eU (ba rfl) d3) rfl (jk rfl (ki (f:=aj) (xs:=u20.2) (by simpa using g21) rfl) (cz eP)),qj eI⟩
theorem TP {G:cb}:b9 G 106 Co:=jL fun cF g_Ffbs=>gT 2 1 (aN xL (aN g_Ffbs bB)) cn Tryz.func106 (fun a r h=>Yb cF a.1 a.2 r h)
def EU:((List Clause)×Int)→List V:=cA (o8 12 ak) (oA I)
def EV (r:Int×(List Clause)):V×List V:=(I r.1,[.usl 12 (r.2.map ak)])
noncomputable def Cn :=bm [true,false] EU EV fun x=>Cm x.1 x.2
theorem ado {a_7:List Clause}{k_8:Int}{r}(h:Cm a_7 k_8=some r):Cn.F (EU (a_7,k_8))=some (EV r):=aK (aO (ft tB) (aL bf)) h
noncomputable def TK :=aI Tryz.f52
noncomputable def MB :=cm [(105,sh),(106,Co)]
def TJ (x:(List Clause)×Int)(r:Int×(List Clause)):St→Prop:=QF MB Tryz.f52 [true,false] (EU x) (EV r)
theorem O8 (a_7:List Clause)(k_8:Int):cg MB 1 (TJ (a_7,k_8)) (cL (cL (cR (cL (cR TK))))) 0 (oc a_7 k_8) (fun u=>(sT 105 [(1,I u.1)] [⟨0,12,u.2.map ak⟩] 2)) fun x3=>(sT 105 [(0,.hs 1 0 [] 12 0 (x3.2.2.map ak).length),(1,I x3.1),(5,I x3.2.1)] [⟨0,12,x3.2.2.map ak⟩] 2):=ef (Av a_7 k_8) fun {Q K} hK self ih x3 y h hr hn=>by
 unfold lO at h
 refine cq 5 [6,7] [I x3.2.1,.hs 1 0 [] 12 0 (x3.2.2.map ak).length] 34 ?_
 refine oq 50 (I (len x3.2.2)) rfl (bw rfl rfl rfl (mW (f:=ak) (xs:=x3.2.2) rfl rfl)) ?_
 refine cq 2 [9] [B (decide (x3.2.1<(len x3.2.2)))] 66 ?_
 refine sq h ?_ ?_<;>intro h
 ·refine aq 1 ?_
  refine cq 7 [12,13,14] [.hs 1 0 [] 12 0 (x3.2.2.map ak).length,I x3.2.1,I x3.1] 114 ?_
  obtain⟨r4,hr4,h⟩:=bS h
  refine oq 130 (str r4) rfl (cP (uG hr4)) ?_
  obtain⟨e5,he5,h⟩:=bS h
  refine oq 146 (.hp 1 0 [] 12 (0+Int.toNat x3.2.1) 0) rfl (al rfl rfl rfl (ce (f:=ak) (xs:=x3.2.2) rfl rfl rfl he5)) ?_
  refine cq 1 [17] [.hp 1 0 [] 12 (0+Int.toNat x3.2.1) 0] 162 ?_
  refine o0 178 rfl rfl (et rfl rfl (dF (path:=[]) (pl:=true) (e':=.agg [str r4,I e5.Kind,I e5.Party,str e5.Action,I e5.Other,I e5.Amount,I e5.When.Op,str e5.When.Name,I e5.When.Day,.usl 4 (e5.When.Parts.map aj),I e5.Within,str e5.Repair]) (es2':=(bI x3.2.2 x3.2.1 (Clause.mk r4 e5.Kind e5.Party e5.Action e5.Other e5.Amount e5.When e5.Within e5.Repair)).map ak) rfl (ba rfl) rfl rfl rfl aF (bO (f:=ak) (xs:=x3.2.2) he5) rfl rfl rfl (gB (f:=ak) (xs:=x3.2.2) (y:=(Clause.mk r4 e5.Kind e5.Party e5.Action e5.Other e5.Amount e5.When e5.Within e5.Repair))) cJ 0 rfl)) ?_
  try rw[←fK (f:=ak) (xs:=x3.2.2) (i:=x3.2.1) (z:=(Clause.mk r4 e5.Kind e5.Party e5.Action e5.Other e5.Amount e5.When e5.Within e5.Repair))]
  refine cq 12 [1,20,21,22] [I (ac (x3.1+1)),.hs 1 0 [] 12 0 ((bI x3.2.2 x3.2.1 (Clause.mk r4 e5.Kind e5.Party e5.Action e5.Other e5.Amount e5.When e5.Within e5.Repair)).map ak).length,I x3.2.1,I (ac (x3.1+1))] 274 ?_
  obtain⟨e6,he6,h⟩:=bS h
  refine oq 290 (.hp 1 0 [] 12 (0+Int.toNat x3.2.1) 0) rfl (al rfl rfl rfl (ce (f:=ak) (xs:=(bI x3.2.2 x3.2.1 (Clause.mk r4 e5.Kind e5.Party e5.Action e5.Other e5.Amount e5.When e5.Within e5.Repair))) rfl rfl rfl he6)) ?_
  refine cq 1 [24] [.hp 1 0 [] 12 (0+Int.toNat x3.2.1) 1] 306 ?_
  obtain⟨rw7,hrw7,h⟩:=lJ h
  refine o0 322 rfl rfl (et rfl rfl (dF (path:=[]) (pl:=true) (e':=.agg [str e6.Id,I (ac (x3.1+1)),I e6.Party,str e6.Action,I e6.Other,I e6.Amount,I e6.When.Op,str e6.When.Name,I e6.When.Day,.usl 4 (e6.When.Parts.map aj),I e6.Within,str e6.Repair]) (es2':=(rw7).map ak) rfl (ba rfl) rfl rfl rfl aF (bO (f:=ak) (xs:=(bI x3.2.2 x3.2.1 (Clause.mk r4 e5.Kind e5.Party e5.Action e5.Other e5.Amount e5.When e5.Within e5.Repair))) he6) rfl rfl rfl (fM (f:=ak) (xs:=(bI x3.2.2 x3.2.1 (Clause.mk r4 e5.Kind e5.Party e5.Action e5.Other e5.Amount e5.When e5.Within e5.Repair))) (y:=(Clause.mk e6.Id (ac (x3.1+1)) e6.Party e6.Action e6.Other e6.Amount e6.When e6.Within e6.Repair)) hrw7) cJ 0 rfl)) ?_
  try rw[←eE hrw7 (f:=ak) (xs:=(bI x3.2.2 x3.2.1 (Clause.mk r4 e5.Kind e5.Party e5.Action e5.Other e5.Amount e5.When e5.Within e5.Repair)))]
  refine cq 12 [1,27,28,29] [I (ac ((ac (x3.1+1))+1)),.hs 1 0 [] 12 0 (rw7.map ak).length,I x3.2.1,I (ac ((ac (x3.1+1))+1))] 418 ?_
  obtain⟨e9,he9,h⟩:=bS h
  refine oq 434 (.hp 1 0 [] 12 (0+Int.toNat x3.2.1) 0) rfl (al rfl rfl rfl (ce (f:=ak) (xs:=rw7) rfl rfl rfl he9)) ?_
  refine cq 1 [31] [.hp 1 0 [] 12 (0+Int.toNat x3.2.1) 2] 450 ?_
  obtain⟨rw10,hrw10,h⟩:=lJ h
  refine o0 466 rfl rfl (et rfl rfl (dF (path:=[]) (pl:=true) (e':=.agg [str e9.Id,I e9.Kind,I (ac ((ac (x3.1+1))+1)),str e9.Action,I e9.Other,I e9.Amount,I e9.When.Op,str e9.When.Name,I e9.When.Day,.usl 4 (e9.When.Parts.map aj),I e9.Within,str e9.Repair]) (es2':=(rw10).map ak) rfl (ba rfl) rfl rfl rfl aF (bO (f:=ak) (xs:=rw7) he9) rfl rfl rfl (fM (f:=ak) (xs:=rw7) (y:=(Clause.mk e9.Id e9.Kind (ac ((ac (x3.1+1))+1)) e9.Action e9.Other e9.Amount e9.When e9.Within e9.Repair)) hrw10) cJ 0 rfl)) ?_
  try rw[←eE hrw10 (f:=ak) (xs:=rw7)]
  refine cq 12 [1,34,35,36] [I (ac ((ac ((ac (x3.1+1))+1))+1)),.hs 1 0 [] 12 0 (rw10.map ak).length,I x3.2.1,I (ac ((ac ((ac (x3.1+1))+1))+1))] 562 ?_
  obtain⟨r13,hr13,h⟩:=bS h
  refine oq 578 (str r13) rfl (cP (uG hr13)) ?_
  obtain⟨e14,he14,h⟩:=bS h
  refine oq 594 (.hp 1 0 [] 12 (0+Int.toNat x3.2.1) 0) rfl (al rfl rfl rfl (ce (f:=ak) (xs:=rw10) rfl rfl rfl he14)) ?_
  refine cq 1 [39] [.hp 1 0 [] 12 (0+Int.toNat x3.2.1) 3] 610 ?_
  obtain⟨rw15,hrw15,h⟩:=lJ h
  refine o0 626 rfl rfl (et rfl rfl (dF (path:=[]) (pl:=true) (e':=.agg [str e14.Id,I e14.Kind,I e14.Party,str r13,I e14.Other,I e14.Amount,I e14.When.Op,str e14.When.Name,I e14.When.Day,.usl 4 (e14.When.Parts.map aj),I e14.Within,str e14.Repair]) (es2':=(rw15).map ak) rfl (ba rfl) rfl rfl rfl aF (bO (f:=ak) (xs:=rw10) he14) rfl rfl rfl (fM (f:=ak) (xs:=rw10) (y:=(Clause.mk e14.Id e14.Kind e14.Party r13 e14.Other e14.Amount e14.When e14.Within e14.Repair)) hrw15) cJ 0 rfl)) ?_
  try rw[←eE hrw15 (f:=ak) (xs:=rw10)]
  refine cq 12 [1,42,43,44] [I (ac ((ac ((ac ((ac (x3.1+1))+1))+1))+1)),.hs 1 0 [] 12 0 (rw15.map ak).length,I x3.2.1,I (ac ((ac ((ac ((ac (x3.1+1))+1))+1))+1))] 722 ?_
  obtain⟨e19,he19,h⟩:=bS h
  refine oq 738 (.hp 1 0 [] 12 (0+Int.toNat x3.2.1) 0) rfl (al rfl rfl rfl (ce (f:=ak) (xs:=rw15) rfl rfl rfl he19)) ?_
  refine cq 1 [46] [.hp 1 0 [] 12 (0+Int.toNat x3.2.1) 4] 754 ?_
  obtain⟨rw20,hrw20,h⟩:=lJ h
  refine o0 770 rfl rfl (et rfl rfl (dF (path:=[]) (pl:=true) (e':=.agg [str e19.Id,I e19.Kind,I e19.Party,str e19.Action,I (ac ((ac ((ac ((ac (x3.1+1))+1))+1))+1)),I e19.Amount,I e19.When.Op,str e19.When.Name,I e19.When.Day,.usl 4 (e19.When.Parts.map aj),I e19.Within,str e19.Repair]) (es2':=(rw20).map ak) rfl (ba rfl) rfl rfl rfl aF (bO (f:=ak) (xs:=rw15) he19) rfl rfl rfl (fM (f:=ak) (xs:=rw15) (y:=(Clause.mk e19.Id e19.Kind e19.Party e19.Action (ac ((ac ((ac ((ac (x3.1+1))+1))+1))+1)) e19.Amount e19.When e19.Within e19.Repair)) hrw20) cJ 0 rfl)) ?_
  try rw[←eE hrw20 (f:=ak) (xs:=rw15)]
  refine cq 12 [1,49,50,51] [I (ac ((ac ((ac ((ac ((ac (x3.1+1))+1))+1))+1))+1)),.hs 1 0 [] 12 0 (rw20.map ak).length,I x3.2.1,I (ac ((ac ((ac ((ac ((ac (x3.1+1))+1))+1))+1))+1))] 866 ?_
  obtain⟨e25,he25,h⟩:=bS h
  refine oq 882 (.hp 1 0 [] 12 (0+Int.toNat x3.2.1) 0) rfl (al rfl rfl rfl (ce (f:=ak) (xs:=rw20) rfl rfl rfl he25)) ?_
  refine cq 1 [53] [.hp 1 0 [] 12 (0+Int.toNat x3.2.1) 5] 898 ?_
  obtain⟨rw26,hrw26,h⟩:=lJ h
  refine o0 914 rfl rfl (et rfl rfl (dF (path:=[]) (pl:=true) (e':=.agg [str e25.Id,I e25.Kind,I e25.Party,str e25.Action,I e25.Other,I (ac ((ac ((ac ((ac ((ac (x3.1+1))+1))+1))+1))+1)),I e25.When.Op,str e25.When.Name,I e25.When.Day,.usl 4 (e25.When.Parts.map aj),I e25.Within,str e25.Repair]) (es2':=(rw26).map ak) rfl (ba rfl) rfl rfl rfl aF (bO (f:=ak) (xs:=rw20) he25) rfl rfl rfl (fM (f:=ak) (xs:=rw20) (y:=(Clause.mk e25.Id e25.Kind e25.Party e25.Action e25.Other (ac ((ac ((ac ((ac ((ac (x3.1+1))+1))+1))+1))+1)) e25.When e25.Within e25.Repair)) hrw26) cJ 0 rfl)) ?_
  try rw[←eE hrw26 (f:=ak) (xs:=rw20)]
  refine cq 12 [1,56,57,58] [I (ac ((ac ((ac ((ac ((ac ((ac (x3.1+1))+1))+1))+1))+1))+1)),.hs 1 0 [] 12 0 (rw26.map ak).length,I x3.2.1,I (ac ((ac ((ac ((ac ((ac ((ac (x3.1+1))+1))+1))+1))+1))+1))] 1010 ?_
  obtain⟨e32,he32,h⟩:=bS h
  refine oq 1026 (.hp 1 0 [] 12 (0+Int.toNat x3.2.1) 0) rfl (al rfl rfl rfl (ce (f:=ak) (xs:=rw26) rfl rfl rfl he32)) ?_
  refine cq 2 [61] [.hp 1 0 [] 12 (0+Int.toNat x3.2.1) 6] 1058 ?_
  obtain⟨rw33,hrw33,h⟩:=lJ h
  refine o0 1074 rfl rfl (et rfl rfl (dF (path:=[]) (pl:=true) (e':=.agg [str e32.Id,I e32.Kind,I e32.Party,str e32.Action,I e32.Other,I e32.Amount,I (ac ((ac ((ac ((ac ((ac ((ac (x3.1+1))+1))+1))+1))+1))+1)),str e32.When.Name,I e32.When.Day,.usl 4 (e32.When.Parts.map aj),I e32.Within,str e32.Repair]) (es2':=(rw33).map ak) rfl (ba rfl) rfl rfl rfl aF (bO (f:=ak) (xs:=rw26) he32) rfl rfl rfl (fM (f:=ak) (xs:=rw26) (y:=(Clause.mk e32.Id e32.Kind e32.Party e32.Action e32.Other e32.Amount (Condition.mk (ac ((ac ((ac ((ac ((ac ((ac (x3.1+1))+1))+1))+1))+1))+1)) e32.When.Name e32.When.Day e32.When.Parts) e32.Within e32.Repair)) hrw33) cJ 0 rfl)) ?_
  try rw[←eE hrw33 (f:=ak) (xs:=rw26)]
  refine cq 12 [1,64,65,66] [I (ac ((ac ((ac ((ac ((ac ((ac ((ac (x3.1+1))+1))+1))+1))+1))+1))+1)),.hs 1 0 [] 12 0 (rw33.map ak).length,I x3.2.1,I (ac ((ac ((ac ((ac ((ac ((ac ((ac (x3.1+1))+1))+1))+1))+1))+1))+1))] 1170 ?_
  obtain⟨r40,hr40,h⟩:=bS h
  refine oq 1186 (str r40) rfl (cP (uG hr40)) ?_
  obtain⟨e41,he41,h⟩:=bS h
  refine oq 1202 (.hp 1 0 [] 12 (0+Int.toNat x3.2.1) 0) rfl (al rfl rfl rfl (ce (f:=ak) (xs:=rw33) rfl rfl rfl he41)) ?_
  refine cq 2 [70] [.hp 1 0 [] 12 (0+Int.toNat x3.2.1) 7] 1234 ?_
  obtain⟨rw42,hrw42,h⟩:=lJ h
  refine o0 1250 rfl rfl (et rfl rfl (dF (path:=[]) (pl:=true) (e':=.agg [str e41.Id,I e41.Kind,I e41.Party,str e41.Action,I e41.Other,I e41.Amount,I e41.When.Op,str r40,I e41.When.Day,.usl 4 (e41.When.Parts.map aj),I e41.Within,str e41.Repair]) (es2':=(rw42).map ak) rfl (ba rfl) rfl rfl rfl aF (bO (f:=ak) (xs:=rw33) he41) rfl rfl rfl (fM (f:=ak) (xs:=rw33) (y:=(Clause.mk e41.Id e41.Kind e41.Party e41.Action e41.Other e41.Amount (Condition.mk e41.When.Op r40 e41.When.Day e41.When.Parts) e41.Within e41.Repair)) hrw42) cJ 0 rfl)) ?_
  try rw[←eE hrw42 (f:=ak) (xs:=rw33)]
  refine cq 12 [1,73,74,75] [I (ac ((ac ((ac ((ac ((ac ((ac ((ac ((ac (x3.1+1))+1))+1))+1))+1))+1))+1))+1)),.hs 1 0 [] 12 0 (rw42.map ak).length,I x3.2.1,I (ac ((ac ((ac ((ac ((ac ((ac ((ac ((ac (x3.1+1))+1))+1))+1))+1))+1))+1))+1))] 1346 ?_
  obtain⟨e50,he50,h⟩:=bS h
  refine oq 1362 (.hp 1 0 [] 12 (0+Int.toNat x3.2.1) 0) rfl (al rfl rfl rfl (ce (f:=ak) (xs:=rw42) rfl rfl rfl he50)) ?_
  refine cq 2 [78] [.hp 1 0 [] 12 (0+Int.toNat x3.2.1) 8] 1394 ?_
  obtain⟨rw51,hrw51,h⟩:=lJ h
  refine o0 1410 rfl rfl (et rfl rfl (dF (path:=[]) (pl:=true) (e':=.agg [str e50.Id,I e50.Kind,I e50.Party,str e50.Action,I e50.Other,I e50.Amount,I e50.When.Op,str e50.When.Name,I (ac ((ac ((ac ((ac ((ac ((ac ((ac ((ac (x3.1+1))+1))+1))+1))+1))+1))+1))+1)),.usl 4 (e50.When.Parts.map aj),I e50.Within,str e50.Repair]) (es2':=(rw51).map ak) rfl (ba rfl) rfl rfl rfl aF (bO (f:=ak) (xs:=rw42) he50) rfl rfl rfl (fM (f:=ak) (xs:=rw42) (y:=(Clause.mk e50.Id e50.Kind e50.Party e50.Action e50.Other e50.Amount (Condition.mk e50.When.Op e50.When.Name (ac ((ac ((ac ((ac ((ac ((ac ((ac ((ac (x3.1+1))+1))+1))+1))+1))+1))+1))+1)) e50.When.Parts) e50.Within e50.Repair)) hrw51) cJ 0 rfl)) ?_
  try rw[←eE hrw51 (f:=ak) (xs:=rw42)]
  refine cq 11 [1,81,82] [I (ac ((ac ((ac ((ac ((ac ((ac ((ac ((ac ((ac (x3.1+1))+1))+1))+1))+1))+1))+1))+1))+1)),.hs 1 0 [] 12 0 (rw51.map ak).length,I x3.2.1] 1490 ?_
  obtain⟨e60,he60,h⟩:=bS h
  refine oq 1506 (.hp 1 0 [] 12 (0+Int.toNat x3.2.1) 0) rfl (al rfl rfl rfl (ce (f:=ak) (xs:=rw51) rfl rfl rfl he60)) ?_
  refine cq 2 [85] [.hp 1 0 [] 12 (0+Int.toNat x3.2.1) 9] 1538 ?_
  refine oq 1554 (.hs 1 0 [((0+Int.toNat x3.2.1),9)] 4 0 (e60.When.Parts.map aj).length) rfl (aU rfl (fU (path:=[]) rfl rfl rfl aF (bO (f:=ak) (xs:=rw51) he60) rfl rfl rfl)) ?_
  refine cq 1 [87] [I (ac ((ac ((ac ((ac ((ac ((ac ((ac ((ac ((ac (x3.1+1))+1))+1))+1))+1))+1))+1))+1))+1))] 1570 ?_
  obtain⟨r61,hr61,h⟩:=bS h
  obtain⟨g62,h⟩:=gG h
  obtain⟨rw63,hrw63,h⟩:=lJ h
  refine oq 1586 (I r61.1) rfl (bK rfl rfl (b8 rfl rfl rfl (iE (iI rfl (eJ (path:=[((0+Int.toNat x3.2.1),9)]) rfl rfl (eF (bO (f:=ak) (xs:=rw51) he60) rfl aF) rfl)) (bg (bW rfl) dj)) (adp hr61) (.inr rfl) (gE rfl rfl rfl (DV (eF (bO (f:=ak) (xs:=rw51) he60) rfl aF) (eA (f:=aj) (xs:=e60.When.Parts) (ys:=r61.2) g62).symm (Ei (bO (f:=ak) (xs:=rw51) he60) rfl cJ (rfl:(_:V)=.agg [str e60.Id,I e60.Kind,I e60.Party,str e60.Action,I e60.Other,I e60.Amount,I e60.When.Op,str e60.When.Name,I e60.When.Day,.usl 4 (r61.2.map aj),I e60.Within,str e60.Repair]) (fM (f:=ak) (xs:=rw51) (y:=(Clause.mk e60.Id e60.Kind e60.Party e60.Action e60.Other e60.Amount (Condition.mk e60.When.Op e60.When.Name e60.When.Day r61.2) e60.Within e60.Repair)) hrw63))) dK) rfl rfl rfl)) ?_
  try rw[eA (f:=aj) (xs:=e60.When.Parts) (ys:=r61.2) g62]
  try rw[←eE hrw63 (f:=ak) (xs:=rw51)]
  refine cq 7 [1,89,90,91] [I r61.1,.hs 1 0 [] 12 0 (rw63.map ak).length,I x3.2.1,I r61.1] 1650 ?_
  obtain⟨e73,he73,h⟩:=bS h
  refine oq 1666 (.hp 1 0 [] 12 (0+Int.toNat x3.2.1) 0) rfl (al rfl rfl rfl (ce (f:=ak) (xs:=rw63) rfl rfl rfl he73)) ?_
  refine cq 1 [93] [.hp 1 0 [] 12 (0+Int.toNat x3.2.1) 10] 1682 ?_
  obtain⟨rw74,hrw74,h⟩:=lJ h
  refine o0 1698 rfl rfl (et rfl rfl (dF (path:=[]) (pl:=true) (e':=.agg [str e73.Id,I e73.Kind,I e73.Party,str e73.Action,I e73.Other,I e73.Amount,I e73.When.Op,str e73.When.Name,I e73.When.Day,.usl 4 (e73.When.Parts.map aj),I r61.1,str e73.Repair]) (es2':=(rw74).map ak) rfl (ba rfl) rfl rfl rfl aF (bO (f:=ak) (xs:=rw63) he73) rfl rfl rfl (fM (f:=ak) (xs:=rw63) (y:=(Clause.mk e73.Id e73.Kind e73.Party e73.Action e73.Other e73.Amount e73.When r61.1 e73.Repair)) hrw74) cJ 1 rfl)) ?_
  try rw[←eE hrw74 (f:=ak) (xs:=rw63)]
  refine cq 12 [1,96,97,98] [I (ac (r61.1+1)),.hs 1 0 [] 12 0 (rw74.map ak).length,I x3.2.1,I (ac (r61.1+1))] 1794 ?_
  obtain⟨r85,hr85,h⟩:=bS h
  refine oq 1810 (str r85) rfl (cP (uG hr85)) ?_
  obtain⟨e86,he86,h⟩:=bS h
  refine oq 1826 (.hp 1 0 [] 12 (0+Int.toNat x3.2.1) 0) rfl (al rfl rfl rfl (ce (f:=ak) (xs:=rw74) rfl rfl rfl he86)) ?_
  refine cq 1 [101] [.hp 1 0 [] 12 (0+Int.toNat x3.2.1) 11] 1842 ?_
  obtain⟨rw87,hrw87,h⟩:=lJ h
  refine o0 1858 rfl rfl (et rfl rfl (dF (path:=[]) (pl:=true) (e':=.agg [str e86.Id,I e86.Kind,I e86.Party,str e86.Action,I e86.Other,I e86.Amount,I e86.When.Op,str e86.When.Name,I e86.When.Day,.usl 4 (e86.When.Parts.map aj),I e86.Within,str r85]) (es2':=(rw87).map ak) rfl (ba rfl) rfl rfl rfl aF (bO (f:=ak) (xs:=rw74) he86) rfl rfl rfl (fM (f:=ak) (xs:=rw74) (y:=(Clause.mk e86.Id e86.Kind e86.Party e86.Action e86.Other e86.Amount e86.When e86.Within r85)) hrw87) cJ 1 rfl)) ?_
  try rw[←eE hrw87 (f:=ak) (xs:=rw74)]
  refine cq 12 [1,5] [I (ac ((ac (r61.1+1))+1)),I (ac (x3.2.1+1))] 1954 ?_
  refine cX ?_
  exact rf [0,1,5] [1] (ih _ _ h hr hn :)
 ·refine aq 1 ?_
  exact rf [1] [1] (hn _ (an h) :) (hk:=hK)
theorem X9 (a_7:List Clause)(k_8:Int)(r:Int×(List Clause))(h:Cm a_7 k_8=some r):bx MB Tryz.f52 [true,false] 1 (EU (a_7,k_8)) (EV r):=by
 show Run _ _ (TJ (a_7,k_8) r) [.code TK] _
 refine rI 105 [(0,.hs 1 0 [] 12 0 (a_7.map ak).length),(1,I k_8)] [(1,some ⟨0,12,a_7.map ak⟩)] 2 ?_
 unfold Cm at h
 refine cq 10 [5] [I (0)] 34 ?_
 obtain⟨y99,hy99,hy991,hy992⟩:=bJ h
 refine bM rfl ?_
 refine rf [0,1,5] [1] (O8 a_7 k_8 rfl (k_8,0,a_7) _ hy99 (fun r' e st hq=>by rw[hy991 r' e] at hq;exact hq) fun u99 hu=>?_)
 replace h:=hy992 u99 hu
 refine cq 5 [4] [I u99.1] 34 ?_
 obtain⟨g100,h⟩:=gG h
 obtain rfl:=sI h
 exact ca rfl ⟨_,fin (vs:=[I u99.1]) rfl (eU (ba rfl) d3) rfl (jk rfl (ki (f:=ak) (xs:=u99.2) (by simpa using g100) rfl) (cz eP)),qj eI⟩
theorem TL {G:cb}:b9 G 52 Cn:=gT 2 1 (aN xL (aN TP bB)) cn Tryz.func52 (fun a r h=>X9 a.1 a.2 r h)
def EY:(Contract×Int)→List V:=cA rk (oA I)
def EZ (r:Int):V×List V:=(I r,[.dead])
noncomputable def Cq :=bm [true,false] EY EZ fun x=>Cp x.1 x.2
theorem adq {a_7:Contract}{k_8:Int}{r}(h:Cp a_7 k_8=some r):Cq.F (EY (a_7,k_8))=some (EZ r):=aK (aO Al (aL bf)) h
noncomputable def ads :=aI Tryz.f18
noncomputable def TQ :=cm [(51,vY),(52,Cn)]
def adr (x:Contract×Int)(r:Int):St→Prop:=QF TQ Tryz.f18 [true,false] (EY x) (EZ r)
theorem Yc (a_7:Contract)(k_8:Int)(r:Int)(h:Cp a_7 k_8=some r):bx TQ Tryz.f18 [true,false] 2 (EY (a_7,k_8)) (EZ r):=by
 show Run _ _ (adr (a_7,k_8) r) [.code ads] _
 refine rI 14 [(0,.agg [.hs 1 0 [] 1 0 (a_7.Parties.map str).length,.hs 2 0 [] 12 0 (a_7.Clauses.map ak).length]),(1,I k_8)] [(1,some ⟨0,1,a_7.Parties.map str⟩),(2,some ⟨0,12,a_7.Clauses.map ak⟩)] 3 ?_
 unfold Cp at h
 refine aq 2 ?_
 refine oq 19 (.hp 3 0 [] 2 0 0) rfl (WP rfl (nP (cB (dx rfl rfl) (cB (dx rfl rfl) nQ))) rfl) ?_
 refine cq 7 [6,7] [.hs 3 0 [(0,0)] 1 0 (a_7.Parties.map str).length,I k_8] 83 ?_
 obtain⟨r3,hr3,h⟩:=bS h
 obtain⟨g4,h⟩:=gG h
 refine oq 99 (I r3.1) rfl (bK rfl rfl (b8 rfl rfl rfl (iE (iI rfl (eJ (path:=[(0,0)]) rfl rfl (eF rfl rfl aF) rfl)) (bg (bW rfl) dj)) (T1 hr3) (.inr rfl) (gE rfl rfl rfl (DV (eF rfl rfl aF) (eA (f:=str) (xs:=a_7.Parties) (ys:=r3.2) g4).symm (Ei rfl rfl cJ (rfl:(_:V)=.agg [.usl 1 (r3.2.map str),.usl 12 (a_7.Clauses.map ak)]) rfl)) dK) rfl rfl rfl)) ?_
 try rw[eA (f:=str) (xs:=a_7.Parties) (ys:=r3.2) g4]
 refine ck 7 [10,11] [1] [] [] [.hs 3 1 [(0,1)] 12 0 (a_7.Clauses.map ak).length,I r3.1] [] 163 (by kernel_rfl) ?_
 obtain⟨r5,hr5,h⟩:=bS h
 obtain⟨g6,h⟩:=gG h
 refine oq 179 (I r5.1) rfl (bK rfl rfl (b8 rfl rfl rfl (iE (iI rfl (eJ (path:=[(0,1)]) rfl rfl (eF rfl rfl aF) rfl)) (bg (bW rfl) dj)) (ado hr5) (.inr rfl) (gE rfl rfl rfl (DV (eF rfl rfl aF) (eA (f:=ak) (xs:=a_7.Clauses) (ys:=r5.2) g6).symm (Ei rfl rfl cJ (rfl:(_:V)=.agg [.usl 1 (r3.2.map str),.usl 12 (r5.2.map ak)]) rfl)) dK) rfl rfl rfl)) ?_
 try rw[eA (f:=ak) (xs:=a_7.Clauses) (ys:=r5.2) g6]
 refine cq 7 [4] [I r5.1] 227 ?_
 obtain rfl:=sI h
 exact ca rfl ⟨_,fin (vs:=[I r5.1]) rfl (eU (ba rfl) d3) rfl (afr (mc (lH rfl) (mc (lH rfl) mn)) (cz eP)),sM eI⟩
theorem TR {G:cb}:b9 G 18 Cq:=gT 2 2 (aN Kf (aN TL bB)) cn Tryz.func18 (fun a r h=>Yc a.1 a.2 r h)
def E0:((List Duty)×Int)→List V:=cA (o8 4 ah) (oA I)
def E1 (r:Int×(List Duty)):V×List V:=(I r.1,[.usl 4 (r.2.map ah)])
noncomputable def Ct :=bm [true,false] E0 E1 fun x=>Cr x.1 x.2
theorem adt {a_6:List Duty}{k_7:Int}{r}(h:Cr a_6 k_7=some r):Ct.F (E0 (a_6,k_7))=some (E1 r):=aK (aO (ft eh) (aL bf)) h
noncomputable def TU :=aI Tryz.f73
noncomputable def MD :=cm []
def TS (x:(List Duty)×Int)(r:Int×(List Duty)):St→Prop:=QF MD Tryz.f73 [true,false] (E0 x) (E1 r)
theorem Pa (a_6:List Duty)(k_7:Int):cg MD 1 (TS (a_6,k_7)) (cL (cL (cR (cL (cR TU))))) 0 (uD a_6 k_7) (fun u=>(sT 41 [(1,I u.1)] [⟨0,4,u.2.map ah⟩] 2)) fun x3=>(sT 41 [(0,.hs 1 0 [] 4 0 (x3.2.2.map ah).length),(1,I x3.1),(5,I x3.2.1)] [⟨0,4,x3.2.2.map ah⟩] 2):=ef (Ay a_6 k_7) fun {Q K} hK self ih x3 y h hr hn=>by
 unfold lQ at h
 refine cq 5 [6,7] [I x3.2.1,.hs 1 0 [] 4 0 (x3.2.2.map ah).length] 34 ?_
 refine oq 50 (I (len x3.2.2)) rfl (bw rfl rfl rfl (mW (f:=ah) (xs:=x3.2.2) rfl rfl)) ?_
 refine cq 2 [9] [B (decide (x3.2.1<(len x3.2.2)))] 66 ?_
 refine sq h ?_ ?_<;>intro h
 ·refine aq 1 ?_
  refine cq 7 [12,13,14] [.hs 1 0 [] 4 0 (x3.2.2.map ah).length,I x3.2.1,I x3.1] 114 ?_
  obtain⟨e4,he4,h⟩:=bS h
  refine oq 130 (.hp 1 0 [] 4 (0+Int.toNat x3.2.1) 0) rfl (al rfl rfl rfl (ce (f:=ah) (xs:=x3.2.2) rfl rfl rfl he4)) ?_
  refine cq 1 [16] [.hp 1 0 [] 4 (0+Int.toNat x3.2.1) 0] 146 ?_
  refine o0 162 rfl rfl (et rfl rfl (dF (path:=[]) (pl:=true) (e':=.agg [I x3.1,I e4.Since,I e4.Due,I e4.Status]) (es2':=(bI x3.2.2 x3.2.1 (Duty.mk x3.1 e4.Since e4.Due e4.Status)).map ah) rfl (ba rfl) rfl rfl rfl aF (bO (f:=ah) (xs:=x3.2.2) he4) rfl rfl rfl (gB (f:=ah) (xs:=x3.2.2) (y:=(Duty.mk x3.1 e4.Since e4.Due e4.Status))) cJ 0 rfl)) ?_
  try rw[←fK (f:=ah) (xs:=x3.2.2) (i:=x3.2.1) (z:=(Duty.mk x3.1 e4.Since e4.Due e4.Status))]
  refine cq 12 [1,19,20,21] [I (ac (x3.1+1)),.hs 1 0 [] 4 0 ((bI x3.2.2 x3.2.1 (Duty.mk x3.1 e4.Since e4.Due e4.Status)).map ah).length,I x3.2.1,I (ac (x3.1+1))] 258 ?_
  obtain⟨e5,he5,h⟩:=bS h
  refine oq 274 (.hp 1 0 [] 4 (0+Int.toNat x3.2.1) 0) rfl (al rfl rfl rfl (ce (f:=ah) (xs:=(bI x3.2.2 x3.2.1 (Duty.mk x3.1 e4.Since e4.Due e4.Status))) rfl rfl rfl he5)) ?_
  refine cq 1 [23] [.hp 1 0 [] 4 (0+Int.toNat x3.2.1) 1] 290 ?_
  obtain⟨rw6,hrw6,h⟩:=lJ h
  refine o0 306 rfl rfl (et rfl rfl (dF (path:=[]) (pl:=true) (e':=.agg [I e5.Clause,I (ac (x3.1+1)),I e5.Due,I e5.Status]) (es2':=(rw6).map ah) rfl (ba rfl) rfl rfl rfl aF (bO (f:=ah) (xs:=(bI x3.2.2 x3.2.1 (Duty.mk x3.1 e4.Since e4.Due e4.Status))) he5) rfl rfl rfl (fM (f:=ah) (xs:=(bI x3.2.2 x3.2.1 (Duty.mk x3.1 e4.Since e4.Due e4.Status))) (y:=(Duty.mk e5.Clause (ac (x3.1+1)) e5.Due e5.Status)) hrw6) cJ 0 rfl)) ?_
  try rw[←eE hrw6 (f:=ah) (xs:=(bI x3.2.2 x3.2.1 (Duty.mk x3.1 e4.Since e4.Due e4.Status)))]
  refine cq 12 [1,26,27,28] [I (ac ((ac (x3.1+1))+1)),.hs 1 0 [] 4 0 (rw6.map ah).length,I x3.2.1,I (ac ((ac (x3.1+1))+1))] 402 ?_
  obtain⟨e8,he8,h⟩:=bS h
  refine oq 418 (.hp 1 0 [] 4 (0+Int.toNat x3.2.1) 0) rfl (al rfl rfl rfl (ce (f:=ah) (xs:=rw6) rfl rfl rfl he8)) ?_
  refine cq 1 [30] [.hp 1 0 [] 4 (0+Int.toNat x3.2.1) 2] 434 ?_
  obtain⟨rw9,hrw9,h⟩:=lJ h
  refine o0 450 rfl rfl (et rfl rfl (dF (path:=[]) (pl:=true) (e':=.agg [I e8.Clause,I e8.Since,I (ac ((ac (x3.1+1))+1)),I e8.Status]) (es2':=(rw9).map ah) rfl (ba rfl) rfl rfl rfl aF (bO (f:=ah) (xs:=rw6) he8) rfl rfl rfl (fM (f:=ah) (xs:=rw6) (y:=(Duty.mk e8.Clause e8.Since (ac ((ac (x3.1+1))+1)) e8.Status)) hrw9) cJ 0 rfl)) ?_
  try rw[←eE hrw9 (f:=ah) (xs:=rw6)]
  refine cq 12 [1,33,34,35] [I (ac ((ac ((ac (x3.1+1))+1))+1)),.hs 1 0 [] 4 0 (rw9.map ah).length,I x3.2.1,I (ac ((ac ((ac (x3.1+1))+1))+1))] 546 ?_
  obtain⟨e12,he12,h⟩:=bS h
  refine oq 562 (.hp 1 0 [] 4 (0+Int.toNat x3.2.1) 0) rfl (al rfl rfl rfl (ce (f:=ah) (xs:=rw9) rfl rfl rfl he12)) ?_
  refine cq 1 [37] [.hp 1 0 [] 4 (0+Int.toNat x3.2.1) 3] 578 ?_
  obtain⟨rw13,hrw13,h⟩:=lJ h
  refine o0 594 rfl rfl (et rfl rfl (dF (path:=[]) (pl:=true) (e':=.agg [I e12.Clause,I e12.Since,I e12.Due,I (ac ((ac ((ac (x3.1+1))+1))+1))]) (es2':=(rw13).map ah) rfl (ba rfl) rfl rfl rfl aF (bO (f:=ah) (xs:=rw9) he12) rfl rfl rfl (fM (f:=ah) (xs:=rw9) (y:=(Duty.mk e12.Clause e12.Since e12.Due (ac ((ac ((ac (x3.1+1))+1))+1)))) hrw13) cJ 0 rfl)) ?_
  try rw[←eE hrw13 (f:=ah) (xs:=rw9)]
  refine cq 12 [1,5] [I (ac ((ac ((ac ((ac (x3.1+1))+1))+1))+1)),I (ac (x3.2.1+1))] 690 ?_
  refine cX ?_
  exact rf [0,1,5] [1] (ih _ _ h hr hn :)
 ·refine aq 1 ?_
  exact rf [1] [1] (hn _ (an h) :) (hk:=hK)
theorem Yd (a_6:List Duty)(k_7:Int)(r:Int×(List Duty))(h:Cr a_6 k_7=some r):bx MD Tryz.f73 [true,false] 1 (E0 (a_6,k_7)) (E1 r):=by
 show Run _ _ (TS (a_6,k_7) r) [.code TU] _
 refine rI 41 [(0,.hs 1 0 [] 4 0 (a_6.map ah).length),(1,I k_7)] [(1,some ⟨0,4,a_6.map ah⟩)] 2 ?_
 unfold Cr at h
 refine cq 10 [5] [I (0)] 34 ?_
 obtain⟨y17,hy17,hy171,hy172⟩:=bJ h
 refine bM rfl ?_
 refine rf [0,1,5] [1] (Pa a_6 k_7 rfl (k_7,0,a_6) _ hy17 (fun r' e st hq=>by rw[hy171 r' e] at hq;exact hq) fun u17 hu=>?_)
 replace h:=hy172 u17 hu
 refine cq 5 [4] [I u17.1] 34 ?_
 obtain⟨g18,h⟩:=gG h
 obtain rfl:=sI h
 exact ca rfl ⟨_,fin (vs:=[I u17.1]) rfl (eU (ba rfl) d3) rfl (jk rfl (ki (f:=ah) (xs:=u17.2) (by simpa using g18) rfl) (cz eP)),qj eI⟩
theorem TV {G:cb}:b9 G 73 Ct:=gT 2 1 bB cn Tryz.func73 (fun a r h=>Yd a.1 a.2 r h)
def E3:((List Int)×Int)→List V:=cA (o8 1 I) (oA I)
def E4 (r:Int×(List Int)):V×List V:=(I r.1,[.usl 1 (r.2.map I)])
noncomputable def vX :=bm [true,false] E3 E4 fun x=>xJ x.1 x.2
theorem TW {a_6:List Int}{k_7:Int}{r}(h:xJ a_6 k_7=some r):vX.F (E3 (a_6,k_7))=some (E4 r):=aK (aO (ft bf) (aL bf)) h
noncomputable def TY :=aI Tryz.f19
noncomputable def ME :=cm []
def TX (x:(List Int)×Int)(r:Int×(List Int)):St→Prop:=QF ME Tryz.f19 [true,false] (E3 x) (E4 r)
theorem Pb (a_6:List Int)(k_7:Int):cg ME 1 (TX (a_6,k_7)) (cL (cL (cR (cL (cR TY))))) 0 (uE a_6 k_7) (fun u=>(sT 19 [(1,I u.1)] [⟨0,1,u.2.map I⟩] 2)) fun x3=>(sT 19 [(0,.hs 1 0 [] 1 0 (x3.2.2.map I).length),(1,I x3.1),(5,I x3.2.1)] [⟨0,1,x3.2.2.map I⟩] 2):=ef (Az a_6 k_7) fun {Q K} hK self ih x3 y h hr hn=>by
 unfold lR at h
 refine cq 5 [6,7] [I x3.2.1,.hs 1 0 [] 1 0 (x3.2.2.map I).length] 34 ?_
 refine oq 50 (I (len x3.2.2)) rfl (bw rfl rfl rfl (mW (f:=I) (xs:=x3.2.2) rfl rfl)) ?_
 refine cq 2 [9] [B (decide (x3.2.1<(len x3.2.2)))] 66 ?_
 refine sq h ?_ ?_<;>intro h
 ·refine aq 1 ?_
  refine cq 7 [12,13,14] [.hs 1 0 [] 1 0 (x3.2.2.map I).length,I x3.2.1,I x3.1] 114 ?_
  obtain⟨e4,he4,h⟩:=bS h
  refine oq 130 (.hp 1 0 [] 1 (0+Int.toNat x3.2.1) 0) rfl (al rfl rfl rfl (ce (f:=I) (xs:=x3.2.2) rfl rfl rfl he4)) ?_
  refine o0 146 rfl rfl (et rfl rfl (dF (path:=[]) (pl:=true) (e':=I x3.1) (es2':=(bI x3.2.2 x3.2.1 x3.1).map I) rfl (ba rfl) rfl rfl rfl aF (bO (f:=I) (xs:=x3.2.2) he4) rfl rfl rfl (gB (f:=I) (xs:=x3.2.2) (y:=x3.1)) cJ 0 rfl)) ?_
  try rw[←fK (f:=I) (xs:=x3.2.2) (i:=x3.2.1) (z:=x3.1)]
  refine cq 12 [1,5] [I (ac (x3.1+1)),I (ac (x3.2.1+1))] 242 ?_
  refine cX ?_
  exact rf [0,1,5] [1] (ih _ _ h hr hn :)
 ·refine aq 1 ?_
  exact rf [1] [1] (hn _ (an h) :) (hk:=hK)
theorem Ye (a_6:List Int)(k_7:Int)(r:Int×(List Int))(h:xJ a_6 k_7=some r):bx ME Tryz.f19 [true,false] 1 (E3 (a_6,k_7)) (E4 r):=by
 show Run _ _ (TX (a_6,k_7) r) [.code TY] _
 refine rI 19 [(0,.hs 1 0 [] 1 0 (a_6.map I).length),(1,I k_7)] [(1,some ⟨0,1,a_6.map I⟩)] 2 ?_
 unfold xJ at h
 refine cq 10 [5] [I (0)] 34 ?_
 obtain⟨y5,hy5,hy51,hy52⟩:=bJ h
 refine bM rfl ?_
 refine rf [0,1,5] [1] (Pb a_6 k_7 rfl (k_7,0,a_6) _ hy5 (fun r' e st hq=>by rw[hy51 r' e] at hq;exact hq) fun u5 hu=>?_)
 replace h:=hy52 u5 hu
 refine cq 5 [4] [I u5.1] 34 ?_
 obtain⟨g6,h⟩:=gG h
 obtain rfl:=sI h
 exact ca rfl ⟨_,fin (vs:=[I u5.1]) rfl (eU (ba rfl) d3) rfl (jk rfl (ki (f:=I) (xs:=u5.2) (by simpa using g6) rfl) (cz eP)),qj eI⟩
theorem Ke {G:cb}:b9 G 19 vX:=gT 2 1 bB cn Tryz.func19 (fun a r h=>Ye a.1 a.2 r h)
def E6:(State×Int)→List V:=cA wF (oA I)
def E7 (r:Int):V×List V:=(I r,[.dead])
noncomputable def Cw :=bm [true,false] E6 E7 fun x=>Cu x.1 x.2
theorem adu {a_9:State}{tZ:Int}{r}(h:Cu a_9 tZ=some r):Cw.F (E6 (a_9,tZ))=some (E7 r):=aK (aO JP (aL bf)) h
noncomputable def adw :=aI Tryz.f32
noncomputable def TZ :=cm [(51,vY),(73,Ct),(19,vX)]
def adv (x:State×Int)(r:Int):St→Prop:=QF TZ Tryz.f32 [true,false] (E6 x) (E7 r)
theorem Yf (a_9:State)(tZ:Int)(r:Int)(h:Cu a_9 tZ=some r):bx TZ Tryz.f32 [true,false] 3 (E6 (a_9,tZ)) (E7 r):=by
 show Run _ _ (adv (a_9,tZ) r) [.code adw] _
 refine rI 18 [(0,.agg [I a_9.Day,.hs 1 0 [] 1 0 (a_9.Facts.map str).length,.hs 2 0 [] 4 0 (a_9.Duties.map ah).length,.hs 3 0 [] 1 0 (a_9.Balances.map I).length,B a_9.Over]),(1,I tZ)] [(1,some ⟨0,1,a_9.Facts.map str⟩),(2,some ⟨0,4,a_9.Duties.map ah⟩),(3,some ⟨0,1,a_9.Balances.map I⟩)] 4 ?_
 unfold Cu at h
 refine aq 2 ?_
 refine oq 20 (.hp 4 0 [] 5 0 0) rfl (WP rfl (nP (cB (dA rfl) (cB (dx rfl rfl) (cB (dx rfl rfl) (cB (dx rfl rfl) (cB (dA rfl) nQ)))))) rfl) ?_
 refine cq 7 [6,7] [.hs 4 0 [(0,1)] 1 0 (a_9.Facts.map str).length,I tZ] 84 ?_
 obtain⟨r3,hr3,h⟩:=bS h
 obtain⟨g4,h⟩:=gG h
 refine oq 100 (I r3.1) rfl (bK rfl rfl (b8 rfl rfl rfl (iE (iI rfl (eJ (path:=[(0,1)]) rfl rfl (eF rfl rfl aF) rfl)) (bg (bW rfl) dj)) (T1 hr3) (.inr rfl) (gE rfl rfl rfl (DV (eF rfl rfl aF) (eA (f:=str) (xs:=a_9.Facts) (ys:=r3.2) g4).symm (Ei rfl rfl cJ (rfl:(_:V)=.agg [I a_9.Day,.usl 1 (r3.2.map str),.usl 4 (a_9.Duties.map ah),.usl 1 (a_9.Balances.map I),B a_9.Over]) rfl)) dK) rfl rfl rfl)) ?_
 try rw[eA (f:=str) (xs:=a_9.Facts) (ys:=r3.2) g4]
 refine ck 7 [10,11] [1] [] [] [.hs 4 1 [(0,2)] 4 0 (a_9.Duties.map ah).length,I r3.1] [] 164 (by kernel_rfl) ?_
 obtain⟨r5,hr5,h⟩:=bS h
 obtain⟨g6,h⟩:=gG h
 refine oq 180 (I r5.1) rfl (bK rfl rfl (b8 rfl rfl rfl (iE (iI rfl (eJ (path:=[(0,2)]) rfl rfl (eF rfl rfl aF) rfl)) (bg (bW rfl) dj)) (adt hr5) (.inr rfl) (gE rfl rfl rfl (DV (eF rfl rfl aF) (eA (f:=ah) (xs:=a_9.Duties) (ys:=r5.2) g6).symm (Ei rfl rfl cJ (rfl:(_:V)=.agg [I a_9.Day,.usl 1 (r3.2.map str),.usl 4 (r5.2.map ah),.usl 1 (a_9.Balances.map I),B a_9.Over]) rfl)) dK) rfl rfl rfl)) ?_
 try rw[eA (f:=ah) (xs:=a_9.Duties) (ys:=r5.2) g6]
 refine cq 7 [14,15] [.hs 4 2 [(0,3)] 1 0 (a_9.Balances.map I).length,I r5.1] 244 ?_
 obtain⟨r7,hr7,h⟩:=bS h
 obtain⟨g8,h⟩:=gG h
 refine oq 260 (I r7.1) rfl (bK rfl rfl (b8 rfl rfl rfl (iE (iI rfl (eJ (path:=[(0,3)]) rfl rfl (eF rfl rfl aF) rfl)) (bg (bW rfl) dj)) (TW hr7) (.inr rfl) (gE rfl rfl rfl (DV (eF rfl rfl aF) (eA (f:=I) (xs:=a_9.Balances) (ys:=r7.2) g8).symm (Ei rfl rfl cJ (rfl:(_:V)=.agg [I a_9.Day,.usl 1 (r3.2.map str),.usl 4 (r5.2.map ah),.usl 1 (r7.2.map I),B a_9.Over]) rfl)) dK) rfl rfl rfl)) ?_
 try rw[eA (f:=I) (xs:=a_9.Balances) (ys:=r7.2) g8]
 refine cq 7 [4] [I r7.1] 308 ?_
 obtain rfl:=sI h
 exact ca rfl ⟨_,fin (vs:=[I r7.1]) rfl (eU (ba rfl) d3) rfl (afr (mc (afn rfl) (mc (lH rfl) (mc (lH rfl) (mc (lH rfl) (mc (afn rfl) mn))))) (cz eP)),sM eI⟩
theorem T0 {G:cb}:b9 G 32 Cw:=gT 2 3 (aN Kf (aN TV (aN Ke bB))) cn Tryz.func32 (fun a r h=>Yf a.1 a.2 r h)
def ER:((List Int)×Int)→List V:=cA (gp I) (oA I)
def ES (r:Int):V×List V:=(I r,[])
noncomputable def Cl :=bm [false,false] ER ES fun x=>xF x.1 x.2
theorem TE {a_1:List Int}{k_2:Int}{r}(h:xF a_1 k_2=some r):Cl.F (ER (a_1,k_2))=some (ES r):=aK (aO (cr bf) (aL bf)) h
noncomputable def TG :=aI Tryz.f20
noncomputable def MA :=cm []
def TF (x:(List Int)×Int)(r:Int):St→Prop:=QF MA Tryz.f20 [false,false] (ER x) (ES r)
theorem O7 (a_1:List Int)(k_2:Int):cg MA 0 (TF (a_1,k_2)) (cL (cL (cR (cL (cR TG))))) 0 (uB a_1 k_2) (fun u=>(sT 21 [(1,I u)] [] 1)) fun x3=>(sT 21 [(0,.isl false (a_1.map I)),(1,I x3.1),(5,I x3.2)] [] 1):=ef (Au a_1 k_2) fun {Q K} hK self ih x3 y h hr hn=>by
 unfold lN at h
 refine cq 5 [6,7] [I x3.2,.isl false (a_1.map I)] 33 ?_
 refine oq 49 (I (len a_1)) rfl (bw rfl rfl rfl (bR rfl)) ?_
 refine cq 2 [9] [B (decide (x3.2<(len a_1)))] 65 ?_
 refine sq h ?_ ?_<;>intro h
 ·refine aq 1 ?_
  refine cq 7 [12,13] [.isl false (a_1.map I),I x3.2] 97 ?_
  obtain⟨e4,he4,h⟩:=bS h
  refine oq 113 (.iptr (I e4) 0) rfl (al rfl rfl rfl (bn rfl rfl rfl rfl he4)) ?_
  refine cq 4 [17] [B (e4 != x3.1)] 161 ?_
  refine sq h ?_ ?_<;>intro h
  ·refine cq 4 [4] [I (-1)] 177 ?_
   exact ca rfl (hr _ (an h) _ (qp [I (-1)]))
  ·refine aq 1 ?_
   refine cq 11 [1,5] [I (ac (x3.1+1)),I (ac (x3.2+1))] 257 ?_
   refine cX ?_
   exact rf [0,1,5] [] (ih _ _ h hr hn :)
 ·refine aq 1 ?_
  exact rf [1] [] (hn _ (an h) :) (hk:=hK)
theorem X8 (a_1:List Int)(k_2:Int)(r:Int)(h:xF a_1 k_2=some r):bx MA Tryz.f20 [false,false] 0 (ER (a_1,k_2)) (ES r):=by
 show Run _ _ (TF (a_1,k_2) r) [.code TG] _
 refine rI 21 [(0,.isl false (a_1.map I)),(1,I k_2)] [] 1 ?_
 unfold xF at h
 refine cq 10 [5] [I (0)] 33 ?_
 obtain⟨y5,hy5,hy51,hy52⟩:=bJ h
 refine bM rfl ?_
 refine rf [0,1,5] [] (O7 a_1 k_2 rfl (k_2,0) _ hy5 (fun r' e st hq=>by rw[hy51 r' e] at hq;exact hq) fun u5 hu=>?_)
 replace h:=hy52 u5 hu
 refine cq 5 [4] [I u5] 33 ?_
 obtain rfl:=sI h
 exact rP [I u5]
theorem TH {G:cb}:b9 G 20 Cl:=gT 2 0 bB cn Tryz.func20 (fun a r h=>X8 a.1 a.2 r h)
def gZ:(Contract×State×Int)→List V:=cA aV (cA bN (oA I))
def hI (r:Bool):V×List V:=(B r,[])
noncomputable def iZ :=bm [false,false,false] gZ hI fun x=>fS x.1 x.2.1 x.2.2
theorem te {gS:Contract}{gU:State}{fX:Int}{r}(h:fS gS gU fX=some r):iZ.F (gZ (gS,gU,fX))=some (hI r):=aK (aO bv (aO cw (aL bf))) h
noncomputable def fx :=aI Tryz.f9
noncomputable abbrev gL :=cR (cR (cR (cR (cR (cR (cR (cR (cR (cR (cR (cR (cR (cR (cR (cR (cR fx))))))))))))))))
noncomputable abbrev mt :=cR (cL (cR (cR (cR (cR (cR (cR (cR (cR (cR (cR (cR (cR (cR (cR (cR (cR fx)))))))))))))))))
noncomputable def fw :=cm [(12,CD),(21,CJ),(14,CQ),(23,CW),(35,Di),(36,Jt),(16,vV),(17,Ce),(25,Ck),(18,Cq),(32,Cw),(19,vX),(20,Cl)]
def eR (x:Contract×State×Int)(r:Bool):St→Prop:=QF fw Tryz.f9 [false,false,false] (gZ x) (hI r)
theorem rF (gS:Contract)(gU:State)(fX:Int)(r:Bool)(h:fS gS gU fX=some r):bx fw Tryz.f9 [false,false,false] 0 (gZ (gS,gU,fX)) (hI r):=by
 show Run _ _ (eR (gS,gU,fX) r) [.code fx] _
 refine rI 124 [(0,aV gS),(1,bN gU),(2,I fX)] [] 1 ?_
 unfold fS at h
 refine ck 14 [3,4,19,20] [] [1,17] [] [.hp 1 0 [] 2 0 0,.hp 17 0 [] 5 0 0,aV gS,I (1048576)] [some ⟨0,2,[aV gS]⟩,some ⟨0,5,[bN gU]⟩] 97 (by kernel_rfl) ?_
 obtain⟨r4,hr4,h⟩:=bS h
 refine oq 113 (I r4) rfl (cP (adF hr4)) ?_
 refine cq 8 [7,23] [I r4,B (decide (r4<0))] 161 ?_
 refine sq h ?_ ?_<;>intro h
 ·refine cq 4 [6] [B true] 177 ?_
  obtain rfl:=sI h
  exact rP [B true]
 ·refine aq 1 ?_
  refine cq 4 [24,25] [bN gU,I r4] 193 ?_
  obtain⟨r5,hr5,h⟩:=bS h
  refine oq 209 (I r5) rfl (cP (adO hr5)) ?_
  refine ck 8 [28] [7] [] [] [B (decide (r5<0))] [] 257 (by kernel_rfl) ?_
  refine sq h ?_ ?_<;>intro h
  ·refine cq 4 [6] [B true] 273 ?_
   obtain rfl:=sI h
   exact rP [B true]
  ·refine aq 1 ?_
   refine aq 1 ?_
   refine d7 [0,1,0,7,0,31,63,127,127,255,1023] rfl (by decide +kernel) ?_
   refine dq [1] [] (aV gS) rfl (aU rfl rfl) ?_
   obtain⟨r6,hr6,h⟩:=bS h
   refine dq [] [] (.agg [.hs 273 0 [] 1 0 (r6.Parties.map str).length,.hs 274 0 [] 12 0 (r6.Clauses.map ak).length]) rfl (cP (si hr6)) ?_ (dZ rfl rfl rfl rfl (bg (bW rfl) dj) (si hr6) (.inr rfl) rfl)
   refine dq [17] [] (bN gU) rfl (aU rfl rfl) ?_
   obtain⟨r7,hr7,h⟩:=bS h
   refine dq [] [] (.agg [I r7.Day,.hs 305 0 [] 1 0 (r7.Facts.map str).length,.hs 306 0 [] 4 0 (r7.Duties.map ah).length,.hs 307 0 [] 1 0 (r7.Balances.map I).length,B r7.Over]) rfl (cP (sj hr7)) ?_ (dZ rfl rfl rfl rfl (bg (bW rfl) dj) (sj hr7) (.inr rfl) rfl)
   refine dk 1 [34] [I fX] ?_
   obtain⟨r8,hr8,h⟩:=bS h
   refine dq [273,274,305,306,307] [] (.tup [.hs 337 0 [] 1 0 (r8.1.map I).length,B r8.2]) rfl (bK rfl rfl (b8 rfl rfl rfl (bg (pI (dE (dM (f:=str) (g:=str) (xs:=r6.Parties) rfl rfl (bT fI)) (dE (dM (f:=ak) (g:=au) (xs:=r6.Clauses) rfl rfl (bT fP)) gQ))) (bg (pI (dE (f6 rfl) (dE (dM (f:=str) (g:=str) (xs:=r7.Facts) rfl rfl (bT fI)) (dE (dM (f:=ah) (g:=ah) (xs:=r7.Duties) rfl rfl (bT gK)) (dE (dM (f:=I) (g:=I) (xs:=r7.Balances) rfl rfl (bT ji)) (dE (f6 rfl) gQ)))))) (bg (bW rfl) dj))) (Vx hr8) (.inl (by simp[cS,dD,str,kL (f:=I) qP])) dK rfl rfl rfl)) ?_ (dZ rfl rfl rfl rfl (bg (pI (dE (dM (f:=str) (g:=str) (xs:=r6.Parties) rfl rfl (bT fI)) (dE (dM (f:=ak) (g:=au) (xs:=r6.Clauses) rfl rfl (bT fP)) gQ))) (bg (pI (dE (f6 rfl) (dE (dM (f:=str) (g:=str) (xs:=r7.Facts) rfl rfl (bT fI)) (dE (dM (f:=ah) (g:=ah) (xs:=r7.Duties) rfl rfl (bT gK)) (dE (dM (f:=I) (g:=I) (xs:=r7.Balances) rfl rfl (bT ji)) (dE (f6 rfl) gQ)))))) (bg (bW rfl) dj))) (Vx hr8) (.inl (by simp[cS,dD,str,kL (f:=I) qP])) rfl)
   refine dk 5 [9,8,37,36,29] [B r8.2,.hs 337 0 [] 1 0 (r8.1.map I).length,B r8.2,.hs 337 0 [] 1 0 (r8.1.map I).length,.tup [.hs 337 0 [] 1 0 (r8.1.map I).length,B r8.2]] ?_
   refine de 433 rfl rfl ?_
   refine cq 3 [38] [aV gS] 449 ?_
   obtain⟨r9,hr9,h⟩:=bS h
   refine oq 465 (.agg [.hs 449 0 [] 1 0 (r9.Parties.map str).length,.hs 450 0 [] 12 0 (r9.Clauses.map ak).length]) rfl (cP (si hr9)) ?_
   refine ck 1 [10] [] [465] [] [.hp 465 0 [] 2 0 0] [some ⟨0,2,[.agg [.isl true [],.isl true []]]⟩] 481 (by kernel_rfl) ?_
   refine gk 465 [.agg [.usl 1 (([]).map str),.usl 12 (([]).map ak)]] rfl rfl (aQ (iw (aQ (.nil _) (aQ (.nil _) fh))) fh) ?_
   refine o0 497 rfl rfl (et rfl rfl (dF (path:=[]) (pl:=false) (e':=kW r9) (es2':=[kW r9]) rfl (nP (cB (dx rfl rfl) (cB (dx rfl rfl) nQ))) rfl rfl rfl aF rfl rfl rfl rfl rfl cJ 2 rfl)) ?_
   refine cq 4 [40] [bN gU] 513 ?_
   obtain⟨r10,hr10,h⟩:=bS h
   refine oq 529 (.agg [I r10.Day,.hs 513 0 [] 1 0 (r10.Facts.map str).length,.hs 514 0 [] 4 0 (r10.Duties.map ah).length,.hs 515 0 [] 1 0 (r10.Balances.map I).length,B r10.Over]) rfl (cP (sj hr10)) ?_
   refine ck 1 [11] [] [529] [] [.hp 529 0 [] 5 0 0] [some ⟨0,5,[.agg [I (0),.isl true [],.isl true [],.isl true [],B false]]⟩] 545 (by kernel_rfl) ?_
   refine gk 529 [.agg [I (0),.usl 1 (([]).map str),.usl 4 (([]).map ah),.usl 1 (([]).map I),B false]] rfl rfl (aQ (iw (aQ (.refl _) (aQ (.nil _) (aQ (.nil _) (aQ (.nil _) (aQ (.refl _) fh)))))) fh) ?_
   refine o0 561 rfl rfl (et rfl rfl (dF (path:=[]) (pl:=false) (e':=nI r10) (es2':=[nI r10]) rfl (nP (cB (dA rfl) (cB (dx rfl rfl) (cB (dx rfl rfl) (cB (dx rfl rfl) (cB (dA rfl) nQ)))))) rfl rfl rfl aF rfl rfl rfl rfl rfl cJ 2 rfl)) ?_
   refine cq 6 [43,44,45] [.agg [.hs 465 2 [(0,0)] 1 0 (r9.Parties.map str).length,.hs 465 2 [(0,1)] 12 0 (r9.Clauses.map ak).length],.agg [I r10.Day,.hs 529 2 [(0,1)] 1 0 (r10.Facts.map str).length,.hs 529 2 [(0,2)] 4 0 (r10.Duties.map ah).length,.hs 529 2 [(0,3)] 1 0 (r10.Balances.map I).length,B r10.Over],I fX] 609 ?_
   obtain⟨r11,hr11,h⟩:=bS h
   refine oq 625 (.tup [.hs 609 0 [] 1 0 (r11.1.map I).length,B r11.2]) rfl (bK rfl rfl (b8 rfl rfl rfl (bg (pI (dE (kU (path:=[(0,0)]) rfl rfl (eF rfl rfl aF) rfl (bT (f:=str) fI)) (dE (kU (path:=[(0,1)]) rfl rfl (eF rfl rfl aF) rfl (bT (f:=ak) fP)) gQ))) (bg (pI (dE (f6 rfl) (dE (kU (path:=[(0,1)]) rfl rfl (eF rfl rfl aF) rfl (bT (f:=str) fI)) (dE (kU (path:=[(0,2)]) rfl rfl (eF rfl rfl aF) rfl (bT (f:=ah) gK)) (dE (kU (path:=[(0,3)]) rfl rfl (eF rfl rfl aF) rfl (bT (f:=I) ji)) (dE (f6 rfl) gQ)))))) (bg (bW rfl) dj))) (RJ hr11) (.inl (by simp[cS,dD,str,kL (f:=I) qP])) dK rfl rfl rfl)) ?_
   refine cq 11 [12,13,49,50] [.hs 609 0 [] 1 0 (r11.1.map I).length,B r11.2,.hs 609 0 [] 1 0 (r11.1.map I).length,.hs 337 0 [] 1 0 (r8.1.map I).length] 737 ?_
   obtain⟨r12,hr12,h⟩:=bS h
   refine oq 753 (B r12) rfl (bK rfl rfl (b8 rfl rfl rfl (bg (zu rfl rfl (dM (f:=I) (g:=I) (xs:=r11.1) rfl rfl (bT ji))) (bg (zu rfl rfl (dM (f:=I) (g:=I) (xs:=r8.1) rfl rfl (bT ji))) dj)) (EL hr12) (.inl rfl) dK rfl rfl rfl)) ?_
   refine cq 2 [53] [B (!r12)] 785 ?_
   obtain⟨u13,hu13,h⟩:=lJ h
   have j13:Run fw 0 (eR (gS,gU,fX) r) (.code (cR (cL (cR (cR (cR (cR (cR (cR (cR (cR (cR (cR fx))))))))))))::.code (cR (cR (cR (cR (cR (cR (cR (cR (cR (cR (cR fx)))))))))))::[]) (sT 124 [(2,I fX),(3,.hp 1 0 [] 2 0 0),(4,.hp 2 0 [] 5 0 0),(8,.hs 3 0 [] 1 0 (r8.1.map I).length),(9,B r8.2),(10,.hp 4 0 [] 2 0 0),(11,.hp 5 0 [] 5 0 0),(12,.hs 6 0 [] 1 0 (r11.1.map I).length),(13,B r11.2),(57,B u13)] [⟨0,2,[aV gS]⟩,⟨0,5,[bN gU]⟩,⟨0,1,r8.1.map I⟩,⟨0,2,[kW r9]⟩,⟨0,5,[nI r10]⟩,⟨0,1,r11.1.map I⟩] 7):=by
    refine sq h ?_ ?_<;>intro h
    ·refine cq 4 [6] [B false] 23 ?_
     obtain rfl:=sI h
     exact rP [B false]
    ·refine aq 1 ?_
     refine aq 2 ?_
     refine d7 [0,0,2,7,15] rfl (by decide +kernel) ?_
     refine dq [4] [] (.agg [.hs 4 0 [(0,0)] 1 0 (r9.Parties.map str).length,.hs 4 0 [(0,1)] 12 0 (r9.Clauses.map ak).length]) rfl (aU rfl rfl) ?_
     refine dq [1] [] (aV gS) rfl (aU rfl rfl) ?_
     obtain⟨r14,hr14,h⟩:=bS h
     refine dq [] [] (.agg [.hs 39 0 [] 1 0 (r14.Parties.map str).length,.hs 40 0 [] 12 0 (r14.Clauses.map ak).length]) rfl (cP (si hr14)) ?_ (dZ rfl rfl rfl rfl (bg (bW rfl) dj) (si hr14) (.inr rfl) rfl)
     obtain⟨r15,hr15,h⟩:=bS h
     refine dq [4,4,39,40] [] (B r15) rfl (bK rfl rfl (b8 rfl rfl rfl (bg (pI (dE (kU (path:=[(0,0)]) rfl rfl (eF rfl rfl aF) rfl (bT (f:=str) fI)) (dE (kU (path:=[(0,1)]) rfl rfl (eF rfl rfl aF) rfl (bT (f:=ak) fP)) gQ))) (bg (pI (dE (dM (f:=str) (g:=str) (xs:=r14.Parties) rfl rfl (bT fI)) (dE (dM (f:=ak) (g:=au) (xs:=r14.Clauses) rfl rfl (bT fP)) gQ))) dj)) (Tn hr15) (.inl rfl) dK rfl rfl rfl)) ?_ (dZ rfl rfl rfl rfl (bg (pI (dE (kU (path:=[(0,0)]) rfl rfl (eF rfl rfl aF) rfl (bT (f:=str) fI)) (dE (kU (path:=[(0,1)]) rfl rfl (eF rfl rfl aF) rfl (bT (f:=ak) fP)) gQ))) (bg (pI (dE (dM (f:=str) (g:=str) (xs:=r14.Parties) rfl rfl (bT fI)) (dE (dM (f:=ak) (g:=au) (xs:=r14.Clauses) rfl rfl (bT fP)) gQ))) dj)) (Tn hr15) (.inl rfl) rfl)
     refine dk 1 [62] [B (!r15)] ?_
     refine de 87 rfl rfl ?_
     refine sq h ?_ ?_<;>intro h
     ·refine cq 4 [6] [B false] 103 ?_
      obtain rfl:=sI h
      exact rP [B false]
     ·refine aq 1 ?_
      refine aq 2 ?_
      refine d7 [0,0,2,7,15] rfl (by decide +kernel) ?_
      refine dq [5] [] (.agg [I r10.Day,.hs 5 0 [(0,1)] 1 0 (r10.Facts.map str).length,.hs 5 0 [(0,2)] 4 0 (r10.Duties.map ah).length,.hs 5 0 [(0,3)] 1 0 (r10.Balances.map I).length,B r10.Over]) rfl (aU rfl rfl) ?_
      refine dq [2] [] (bN gU) rfl (aU rfl rfl) ?_
      obtain⟨r16,hr16,h⟩:=bS h
      refine dq [] [] (.agg [I r16.Day,.hs 119 0 [] 1 0 (r16.Facts.map str).length,.hs 120 0 [] 4 0 (r16.Duties.map ah).length,.hs 121 0 [] 1 0 (r16.Balances.map I).length,B r16.Over]) rfl (cP (sj hr16)) ?_ (dZ rfl rfl rfl rfl (bg (bW rfl) dj) (sj hr16) (.inr rfl) rfl)
      obtain⟨r17,hr17,h⟩:=bS h
      refine dq [5,5,5,119,120,121] [] (B r17) rfl (bK rfl rfl (b8 rfl rfl rfl (bg (pI (dE (f6 rfl) (dE (kU (path:=[(0,1)]) rfl rfl (eF rfl rfl aF) rfl (bT (f:=str) fI)) (dE (kU (path:=[(0,2)]) rfl rfl (eF rfl rfl aF) rfl (bT (f:=ah) gK)) (dE (kU (path:=[(0,3)]) rfl rfl (eF rfl rfl aF) rfl (bT (f:=I) ji)) (dE (f6 rfl) gQ)))))) (bg (pI (dE (f6 rfl) (dE (dM (f:=str) (g:=str) (xs:=r16.Facts) rfl rfl (bT fI)) (dE (dM (f:=ah) (g:=ah) (xs:=r16.Duties) rfl rfl (bT gK)) (dE (dM (f:=I) (g:=I) (xs:=r16.Balances) rfl rfl (bT ji)) (dE (f6 rfl) gQ)))))) dj)) (Tz hr17) (.inl rfl) dK rfl rfl rfl)) ?_ (dZ rfl rfl rfl rfl (bg (pI (dE (f6 rfl) (dE (kU (path:=[(0,1)]) rfl rfl (eF rfl rfl aF) rfl (bT (f:=str) fI)) (dE (kU (path:=[(0,2)]) rfl rfl (eF rfl rfl aF) rfl (bT (f:=ah) gK)) (dE (kU (path:=[(0,3)]) rfl rfl (eF rfl rfl aF) rfl (bT (f:=I) ji)) (dE (f6 rfl) gQ)))))) (bg (pI (dE (f6 rfl) (dE (dM (f:=str) (g:=str) (xs:=r16.Facts) rfl rfl (bT fI)) (dE (dM (f:=ah) (g:=ah) (xs:=r16.Duties) rfl rfl (bT gK)) (dE (dM (f:=I) (g:=I) (xs:=r16.Balances) rfl rfl (bT ji)) (dE (f6 rfl) gQ)))))) dj)) (Tz hr17) (.inl rfl) rfl)
      refine dk 1 [67] [B (!r17)] ?_
      refine de 167 rfl rfl ?_
      refine sq h ?_ ?_<;>intro h
      ·refine cq 4 [6] [B false] 183 ?_
       obtain rfl:=sI h
       exact rP [B false]
      ·refine aq 1 ?_
       refine cq 8 [68,69] [.agg [.hs 4 0 [(0,0)] 1 0 (r9.Parties.map str).length,.hs 4 0 [(0,1)] 12 0 (r9.Clauses.map ak).length],I (1)] 215 ?_
       obtain⟨r18,hr18,h⟩:=bS h
       refine sW 68 0 (path:=[(0,0)]) (.agg [.hs 215 0 [] 1 0 (r9.Parties.map str).length,.hs 4 0 [(0,1)] 12 0 (r9.Clauses.map ak).length]) 231 rfl rfl rfl rfl rfl (eF rfl rfl aF) (kV (path:=[]) (i:=0) (k:=0) (e':=.agg [.dead,.usl 12 (r9.Clauses.map ak)]) (es2':=[.agg [.dead,.usl 12 (r9.Clauses.map ak)]]) aF rfl rfl rfl cJ) rfl rfl ?_
       refine sW 68 1 (path:=[(0,1)]) (.agg [.hs 215 0 [] 1 0 (r9.Parties.map str).length,.hs 231 0 [] 12 0 (r9.Clauses.map ak).length]) 247 rfl rfl rfl rfl rfl (eF rfl rfl aF) (kV (path:=[]) (i:=0) (k:=1) (e':=.agg [.dead,.dead]) (es2':=[.agg [.dead,.dead]]) aF rfl rfl rfl cJ) rfl rfl ?_
       refine oq 263 (I r18) rfl (bK rfl rfl (b8 rfl rfl rfl (iE (hdA (Od (eJ (path:=[]) rfl rfl aF rfl) (Od (eJ (path:=[]) rfl rfl aF rfl) hdN))) (bg (bW rfl) dj)) (adq hr18) (.inr rfl) (gE rfl rfl rfl mT (R5 rfl rfl rfl dK)) rfl rfl rfl)) ?_
       refine cq 6 [71,72] [.agg [I r10.Day,.hs 5 0 [(0,1)] 1 0 (r10.Facts.map str).length,.hs 5 0 [(0,2)] 4 0 (r10.Duties.map ah).length,.hs 5 0 [(0,3)] 1 0 (r10.Balances.map I).length,B r10.Over],I r18] 311 ?_
       obtain⟨r19,hr19,h⟩:=bS h
       refine sW 71 1 (path:=[(0,1)]) (.agg [I r10.Day,.hs 311 0 [] 1 0 (r10.Facts.map str).length,.hs 5 0 [(0,2)] 4 0 (r10.Duties.map ah).length,.hs 5 0 [(0,3)] 1 0 (r10.Balances.map I).length,B r10.Over]) 327 rfl rfl rfl rfl rfl (eF rfl rfl aF) (kV (path:=[]) (i:=0) (k:=1) (e':=.agg [I r10.Day,.dead,.usl 4 (r10.Duties.map ah),.usl 1 (r10.Balances.map I),B r10.Over]) (es2':=[.agg [I r10.Day,.dead,.usl 4 (r10.Duties.map ah),.usl 1 (r10.Balances.map I),B r10.Over]]) aF rfl rfl rfl cJ) rfl rfl ?_
       refine sW 71 2 (path:=[(0,2)]) (.agg [I r10.Day,.hs 311 0 [] 1 0 (r10.Facts.map str).length,.hs 327 0 [] 4 0 (r10.Duties.map ah).length,.hs 5 0 [(0,3)] 1 0 (r10.Balances.map I).length,B r10.Over]) 343 rfl rfl rfl rfl rfl (eF rfl rfl aF) (kV (path:=[]) (i:=0) (k:=2) (e':=.agg [I r10.Day,.dead,.dead,.usl 1 (r10.Balances.map I),B r10.Over]) (es2':=[.agg [I r10.Day,.dead,.dead,.usl 1 (r10.Balances.map I),B r10.Over]]) aF rfl rfl rfl cJ) rfl rfl ?_
       refine sW 71 3 (path:=[(0,3)]) (.agg [I r10.Day,.hs 311 0 [] 1 0 (r10.Facts.map str).length,.hs 327 0 [] 4 0 (r10.Duties.map ah).length,.hs 343 0 [] 1 0 (r10.Balances.map I).length,B r10.Over]) 359 rfl rfl rfl rfl rfl (eF rfl rfl aF) (kV (path:=[]) (i:=0) (k:=3) (e':=.agg [I r10.Day,.dead,.dead,.dead,B r10.Over]) (es2':=[.agg [I r10.Day,.dead,.dead,.dead,B r10.Over]]) aF rfl rfl rfl cJ) rfl rfl ?_
       refine oq 375 (I r19) rfl (bK rfl rfl (b8 rfl rfl rfl (iE (hdA (Od (afh rfl) (Od (eJ (path:=[]) rfl rfl aF rfl) (Od (eJ (path:=[]) rfl rfl aF rfl) (Od (eJ (path:=[]) rfl rfl aF rfl) (Od (afh rfl) hdN)))))) (bg (bW rfl) dj)) (adu hr19) (.inr rfl) (R5 rfl rfl rfl (R5 rfl rfl rfl (R5 rfl rfl rfl dK))) rfl rfl rfl)) ?_
       refine cq 8 [76] [B (decide (r19<0))] 439 ?_
       obtain⟨y20,hy20,hy201,hy202⟩:=bJ h
       have j20:∀u20,y20=.inr u20→Run fw 0 (eR (gS,gU,fX) r) (.code mt::.code gL::[]) (sT 124 [(2,I fX),(3,.hp 1 0 [] 2 0 0),(4,.hp 2 0 [] 5 0 0),(8,.hs 3 0 [] 1 0 (r8.1.map I).length),(9,B r8.2),(12,.hs 4 0 [] 1 0 (r11.1.map I).length),(86,B u20)] [⟨0,2,[aV gS]⟩,⟨0,5,[bN gU]⟩,⟨0,1,r8.1.map I⟩,⟨0,1,r11.1.map I⟩] 5):=by
        intro u20 hu
        replace h:=hy202 u20 hu
        refine sq h ?_ ?_<;>intro h
        ·refine cq 4 [6] [B false] 21 ?_
         obtain rfl:=sI h
         exact rP [B false]
        ·refine aq 1 ?_
         refine cq 8 [87,88] [.hs 4 0 [] 1 0 (r11.1.map I).length,I (1)] 53 ?_
         obtain⟨r21,hr21,h⟩:=bS h
         obtain⟨g22,h⟩:=gG h
         refine oq 69 (I r21.1) rfl (bK rfl rfl (b8 rfl rfl rfl (iE (iI rfl (eJ (path:=[]) rfl rfl aF rfl)) (bg (bW rfl) dj)) (TW hr21) (.inr rfl) (gE rfl rfl rfl rfl dK) rfl rfl rfl)) ?_
         try rw[eA (f:=I) (xs:=r11.1) (ys:=r21.2) g22]
         refine cq 10 [15,90,91] [I r21.1,.hs 4 0 [] 1 0 (r21.2.map I).length,I (1)] 133 ?_
         obtain⟨r23,hr23,h⟩:=bS h
         refine oq 149 (I r23) rfl (bK rfl rfl (b8 rfl rfl rfl (bg (zu rfl rfl (dM (f:=I) (g:=I) (xs:=r21.2) rfl rfl (bT ji))) (bg (bW rfl) dj)) (TE hr23) (.inl rfl) dK rfl rfl rfl)) ?_
         refine cq 8 [16,94] [I r23,B (decide (r23<0))] 197 ?_
         refine sq h ?_ ?_<;>intro h
         ·refine cq 4 [6] [B false] 213 ?_
          obtain rfl:=sI h
          exact rP [B false]
         ·refine aq 1 ?_
          refine cq 7 [97] [B (r23 != r21.1)] 245 ?_
          refine sq h ?_ ?_<;>intro h
          ·refine cq 4 [6] [B false] 261 ?_
           obtain rfl:=sI h
           exact rP [B false]
          ·refine aq 1 ?_
           refine aq 1 ?_
           refine d7 [0,1,0,7,0,31,63,127,127,255,1023] rfl (by decide +kernel) ?_
           refine dq [1] [] (aV gS) rfl (aU rfl rfl) ?_
           obtain⟨r24,hr24,h⟩:=bS h
           refine dq [] [] (.agg [.hs 261 0 [] 1 0 (r24.Parties.map str).length,.hs 262 0 [] 12 0 (r24.Clauses.map ak).length]) rfl (cP (si hr24)) ?_ (dZ rfl rfl rfl rfl (bg (bW rfl) dj) (si hr24) (.inr rfl) rfl)
           refine dq [2] [] (bN gU) rfl (aU rfl rfl) ?_
           obtain⟨r25,hr25,h⟩:=bS h
           refine dq [] [] (.agg [I r25.Day,.hs 293 0 [] 1 0 (r25.Facts.map str).length,.hs 294 0 [] 4 0 (r25.Duties.map ah).length,.hs 295 0 [] 1 0 (r25.Balances.map I).length,B r25.Over]) rfl (cP (sj hr25)) ?_ (dZ rfl rfl rfl rfl (bg (bW rfl) dj) (sj hr25) (.inr rfl) rfl)
           refine dk 1 [103] [I fX] ?_
           obtain⟨r26,hr26,h⟩:=bS h
           refine dq [261,262,293,294,295] [] (.tup [.hs 325 0 [] 1 0 (r26.1.map I).length,B r26.2]) rfl (bK rfl rfl (b8 rfl rfl rfl (bg (pI (dE (dM (f:=str) (g:=str) (xs:=r24.Parties) rfl rfl (bT fI)) (dE (dM (f:=ak) (g:=au) (xs:=r24.Clauses) rfl rfl (bT fP)) gQ))) (bg (pI (dE (f6 rfl) (dE (dM (f:=str) (g:=str) (xs:=r25.Facts) rfl rfl (bT fI)) (dE (dM (f:=ah) (g:=ah) (xs:=r25.Duties) rfl rfl (bT gK)) (dE (dM (f:=I) (g:=I) (xs:=r25.Balances) rfl rfl (bT ji)) (dE (f6 rfl) gQ)))))) (bg (bW rfl) dj))) (RJ hr26) (.inl (by simp[cS,dD,str,kL (f:=I) qP])) dK rfl rfl rfl)) ?_ (dZ rfl rfl rfl rfl (bg (pI (dE (dM (f:=str) (g:=str) (xs:=r24.Parties) rfl rfl (bT fI)) (dE (dM (f:=ak) (g:=au) (xs:=r24.Clauses) rfl rfl (bT fP)) gQ))) (bg (pI (dE (f6 rfl) (dE (dM (f:=str) (g:=str) (xs:=r25.Facts) rfl rfl (bT fI)) (dE (dM (f:=ah) (g:=ah) (xs:=r25.Duties) rfl rfl (bT gK)) (dE (dM (f:=I) (g:=I) (xs:=r25.Balances) rfl rfl (bT ji)) (dE (f6 rfl) gQ)))))) (bg (bW rfl) dj))) (RJ hr26) (.inl (by simp[cS,dD,str,kL (f:=I) qP])) rfl)
           refine dk 5 [18,17,106,105,98] [B r26.2,.hs 325 0 [] 1 0 (r26.1.map I).length,B r26.2,.hs 325 0 [] 1 0 (r26.1.map I).length,.tup [.hs 325 0 [] 1 0 (r26.1.map I).length,B r26.2]] ?_
           refine de 421 rfl rfl ?_
           refine cq 5 [107,108] [.hs 325 0 [] 1 0 (r26.1.map I).length,.hs 3 0 [] 1 0 (r8.1.map I).length] 453 ?_
           obtain⟨r27,hr27,h⟩:=bS h
           refine oq 469 (B r27) rfl (bK rfl rfl (b8 rfl rfl rfl (bg (zu rfl rfl (dM (f:=I) (g:=I) (xs:=r26.1) rfl rfl (bT ji))) (bg (zu rfl rfl (dM (f:=I) (g:=I) (xs:=r8.1) rfl rfl (bT ji))) dj)) (EL hr27) (.inl rfl) dK rfl rfl rfl)) ?_
           refine cq 2 [111] [B (!r27)] 501 ?_
           obtain⟨u28,hu28,h⟩:=lJ h
           have j28:Run fw 0 (eR (gS,gU,fX) r) (.code (cR (cL (cR (cR (cR (cR (cR (cR (cR gL)))))))))::.code (cR (cR (cR (cR (cR (cR (cR (cR gL))))))))::[]) (sT 124 [(12,.hs 1 0 [] 1 0 (r21.2.map I).length),(15,I r21.1),(115,B u28)] [⟨0,1,r21.2.map I⟩] 2):=by
            refine sq h ?_ ?_<;>intro h
            ·refine cq 4 [6] [B false] 18 ?_
             obtain rfl:=sI h
             exact rP [B false]
            ·refine aq 1 ?_
             refine cq 8 [116,117] [.hs 1 0 [] 1 0 (r21.2.map I).length,I (1)] 50 ?_
             obtain⟨r29,hr29,h⟩:=bS h
             refine oq 66 (I r29) rfl (bK rfl rfl (b8 rfl rfl rfl (bg (zu rfl rfl (dM (f:=I) (g:=I) (xs:=r21.2) rfl rfl (bT ji))) (bg (bW rfl) dj)) (TE hr29) (.inl rfl) dK rfl rfl rfl)) ?_
             refine cq 8 [16,120] [I r29,B (decide (r29<0))] 114 ?_
             refine sq h ?_ ?_<;>intro h
             ·refine cq 4 [6] [B false] 130 ?_
              obtain rfl:=sI h
              exact rP [B false]
             ·refine aq 1 ?_
              refine cq 7 [123] [B (r29 != r21.1)] 162 ?_
              refine sq h ?_ ?_<;>intro h
              ·refine cq 4 [6] [B false] 178 ?_
               obtain rfl:=sI h
               exact rP [B false]
              ·refine aq 1 ?_
               refine cq 4 [6] [B true] 178 ?_
               obtain rfl:=sI h
               exact rP [B true]
           replace h:=hu28
           clear hu28
           refine sp 111 h rfl ?_ ?_<;>intro h
           ·refine cq 5 [115] [B true] 565 ?_
            subst h
            exact rf [12,15,115] [4] (j28 :)
           ·refine cq 5 [115] [B (!(r26.2==r8.2))] 565 ?_
            subst h
            exact rf [12,15,115] [4] (j28 :)
       have r20:∀r',y20=.inl r'→∀st,eR (gS,gU,fX) r' st→(eR (gS,gU,fX) r) st:=fun r' e st hq=>by rw[hy201 r' e] at hq;exact hq
       replace h:=hy20
       refine sp 76 h rfl ?_ ?_<;>intro h
       ·refine cq 11 [86] [B true] 599 ?_
        exact rf [2,3,4,8,9,12,86] [1,2,3,6] (j20 _ (an h) :)
       ·refine cq 2 [77,78] [.hs 6 0 [] 1 0 (r11.1.map I).length,.hs 3 0 [] 1 0 (r8.1.map I).length] 471 ?_
        obtain⟨r30,hr30,h⟩:=bS h
        refine oy 487 (B r30) rfl (bK rfl rfl (b8 rfl rfl rfl (bg (zu rfl rfl (dM (f:=I) (g:=I) (xs:=r11.1) rfl rfl (bT ji))) (bg (zu rfl rfl (dM (f:=I) (g:=I) (xs:=r8.1) rfl rfl (bT ji))) dj)) (EL hr30) (.inl rfl) dK rfl rfl rfl)) ?_
        refine cq 3 [82] [B (!r30)] 535 ?_
        obtain⟨u31,hu31,h⟩:=lJ h
        have j31:Run fw 0 (eR (gS,gU,fX) r) (.code mt::.code gL::[]) (sT 124 [(2,I fX),(3,.hp 1 0 [] 2 0 0),(4,.hp 2 0 [] 5 0 0),(8,.hs 3 0 [] 1 0 (r8.1.map I).length),(9,B r8.2),(12,.hs 4 0 [] 1 0 (r11.1.map I).length),(86,B u31)] [⟨0,2,[aV gS]⟩,⟨0,5,[bN gU]⟩,⟨0,1,r8.1.map I⟩,⟨0,1,r11.1.map I⟩] 5):=by
         exact rf [2,3,4,8,9,12,86] [1,2,3,4] (j20 _ (an h) :)
        replace h:=hu31
        clear hu31
        refine sp 82 h rfl ?_ ?_<;>intro h
        ·refine cq 5 [86] [B true] 599 ?_
         subst h
         exact rf [2,3,4,8,9,12,86] [1,2,3,6] (j31 :)
        ·refine cq 5 [86] [B (!(r11.2==r8.2))] 599 ?_
         subst h
         exact rf [2,3,4,8,9,12,86] [1,2,3,6] (j31 :)
   replace h:=hu13
   clear hu13
   refine sp 53 h rfl ?_ ?_<;>intro h
   ·refine cq 5 [57] [B true] 849 ?_
    subst h
    exact rf [2,3,4,8,9,10,11,12,13,57] [1,17,337,465,529,609] (j13 :)
   ·refine cq 5 [57] [B (!(r11.2==r8.2))] 849 ?_
    subst h
    exact rf [2,3,4,8,9,10,11,12,13,57] [1,17,337,465,529,609] (j13 :)
theorem rl {G:cb}:b9 G 9 iZ:=gT 3 0 (aN Ui (aN Uq (aN UF (aN UQ (aN Vy (aN Zw (aN Kc (aN Tp (aN TA (aN TR (aN T0 (aN Ke (aN TH bB))))))))))))) cn Tryz.func9 (fun a r h=>rF a.1 a.2.1 a.2.2 r h)
end Go.Ln
