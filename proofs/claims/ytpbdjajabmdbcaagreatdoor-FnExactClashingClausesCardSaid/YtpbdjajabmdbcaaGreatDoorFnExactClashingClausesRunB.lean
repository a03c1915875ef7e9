/-
  The walks.
-/
import Derived.Test.YtpbdjajabmdbcaaGreatDoorFnExactClashingClausesRunA
set_option maxHeartbeats 4000000
set_option linter.unusedVariables false
set_option linter.unusedSimpArgs false
set_option maxRecDepth 100000
namespace Go.Ln
open Go Go.Proofs
theorem Kn (a_1:ArrInt2)(b_2:ArrInt2):cD HW 0 (NV (a_1,b_2)) (cL (cL (cR (cL (cR NW))))) 0 (wQ a_1 b_2) (fun u=>(sT 17 [] [] 1)) fun x3=>(sT 17 [(2,.hp 1 0 [] 2 0 0),(3,.hp 2 0 [] 2 0 0),(5,I x3)] [⟨0,2,[ah a_1]⟩,⟨0,2,[ah b_2]⟩] 3):=ey (xI a_1 b_2) fun {Q K} hK self ih x3 y h hr hn=>by
 unfold jC at h
 refine cq 6 [7] [B (decide (x3<2))] 35 ?_
 refine sq h ?_ ?_<;>intro h
 ·refine aq 1 ?_
  refine aq 3 ?_
  refine fa [0,1,3,0,8,24,63] rfl (by decide +kernel) ?_
  refine dk 1 [10] [I x3] ?_
  refine aX h (fun e h=>?_) (fun h=>?_)
  ·refine yU 10 e ?_
   refine dq [1] [] (.hp 1 0 [] 2 0 0) rfl (ao rfl rfl rfl rfl) ?_
   refine dq [1] [] (I a_1.E0) rfl (cF rfl rfl) ?_
   refine dk 1 [13] [I x3] ?_
   refine aX h (fun e h=>?_) (fun h=>?_)
   ·refine yU 13 e ?_
    refine dq [2] [] (.hp 2 0 [] 2 0 0) rfl (ao rfl rfl rfl rfl) ?_
    refine dq [2] [] (I b_2.E0) rfl (cF rfl rfl) ?_
    refine dk 1 [16] [B (a_1.E0 != b_2.E0)] ?_
    refine de 147 rfl rfl ?_
    refine sq h ?_ ?_<;>intro h
    ·refine cq 4 [4] [B false] 163 ?_
     exact bR rfl (hr _ (ap h) _ (qp [B false]))
    ·refine aq 1 ?_
     refine cq 6 [5] [I (aj (x3+1))] 195 ?_
     refine cZ ?_
     exact rf [2,3,5] [1,2] (ih _ _ h hr hn :)
   ·refine aX h (fun e h=>?_) (fun h=>?_)
    ·refine yU 13 e ?_
     refine dq [2] [] (.hp 2 0 [] 2 0 1) rfl (ao rfl rfl rfl rfl) ?_
     refine dq [2] [] (I b_2.E1) rfl (cF rfl rfl) ?_
     refine dk 1 [16] [B (a_1.E0 != b_2.E1)] ?_
     refine de 147 rfl rfl ?_
     refine sq h ?_ ?_<;>intro h
     ·refine cq 4 [4] [B false] 163 ?_
      exact bR rfl (hr _ (ap h) _ (qp [B false]))
     ·refine aq 1 ?_
      refine cq 6 [5] [I (aj (x3+1))] 195 ?_
      refine cZ ?_
      exact rf [2,3,5] [1,2] (ih _ _ h hr hn :)
    ·cases h
  ·refine aX h (fun e h=>?_) (fun h=>?_)
   ·refine yU 10 e ?_
    refine dq [1] [] (.hp 1 0 [] 2 0 1) rfl (ao rfl rfl rfl rfl) ?_
    refine dq [1] [] (I a_1.E1) rfl (cF rfl rfl) ?_
    refine dk 1 [13] [I x3] ?_
    refine aX h (fun e h=>?_) (fun h=>?_)
    ·refine yU 13 e ?_
     refine dq [2] [] (.hp 2 0 [] 2 0 0) rfl (ao rfl rfl rfl rfl) ?_
     refine dq [2] [] (I b_2.E0) rfl (cF rfl rfl) ?_
     refine dk 1 [16] [B (a_1.E1 != b_2.E0)] ?_
     refine de 147 rfl rfl ?_
     refine sq h ?_ ?_<;>intro h
     ·refine cq 4 [4] [B false] 163 ?_
      exact bR rfl (hr _ (ap h) _ (qp [B false]))
     ·refine aq 1 ?_
      refine cq 6 [5] [I (aj (x3+1))] 195 ?_
      refine cZ ?_
      exact rf [2,3,5] [1,2] (ih _ _ h hr hn :)
    ·refine aX h (fun e h=>?_) (fun h=>?_)
     ·refine yU 13 e ?_
      refine dq [2] [] (.hp 2 0 [] 2 0 1) rfl (ao rfl rfl rfl rfl) ?_
      refine dq [2] [] (I b_2.E1) rfl (cF rfl rfl) ?_
      refine dk 1 [16] [B (a_1.E1 != b_2.E1)] ?_
      refine de 147 rfl rfl ?_
      refine sq h ?_ ?_<;>intro h
      ·refine cq 4 [4] [B false] 163 ?_
       exact bR rfl (hr _ (ap h) _ (qp [B false]))
      ·refine aq 1 ?_
       refine cq 6 [5] [I (aj (x3+1))] 195 ?_
       refine cZ ?_
       exact rf [2,3,5] [1,2] (ih _ _ h hr hn :)
     ·cases h
   ·cases h
 ·refine aq 1 ?_
  exact rf [] [] (hn _ (ap h) :) (hk:=hK)
theorem Rh (a_1:ArrInt2)(b_2:ArrInt2)(r:Bool)(h:uX a_1 b_2=some r):bT HW Tryz.f37 [false,false] 0 (Be (a_1,b_2)) (Bf r):=by
 show Run _ _ (NV (a_1,b_2) r) [.code NW] _
 refine rI 17 [(0,ah a_1),(1,ah b_2)] [] 1 ?_
 unfold uX at h
 refine ck 12 [2,3,5] [] [1,17] [] [.hp 1 0 [] 2 0 0,.hp 17 0 [] 2 0 0,I (0)] [some ⟨0,2,[ah a_1]⟩,some ⟨0,2,[ah b_2]⟩] 65 (by kernel_rfl) ?_
 obtain⟨y4,hy4,hy41,hy42⟩:=bJ h
 refine bZ rfl ?_
 refine rf [2,3,5] [1,17] (Kn a_1 b_2 rfl 0 _ hy4 (fun r' e st hq=>by rw[hy41 r' e] at hq;exact hq) fun u4 hu=>?_)
 replace h:=hy42 u4 hu
 refine cq 4 [4] [B true] 17 ?_
 obtain rfl:=sI h
 exact rP [B true]
theorem NX {G:cO}:cM G 37 zg:=gT 2 0 bX cY Tryz.func37 (fun a r h=>Rh a.1 a.2 r h)
def Bg:((List ArrInt2)×(List ArrInt2))→List V:=cA (ln ah) (oA (ln ah))
def Bh (r:Bool):V×List V:=(B r,[])
noncomputable def zh :=bC [false,false] Bg Bh fun x=>tF x.1 x.2
theorem HY {a_1:List ArrInt2}{b_2:List ArrInt2}{r}(h:tF a_1 b_2=some r):zh.F (Bg (a_1,b_2))=some (Bh r):=aQ (bB (d9 gQ) (aR (d9 gQ))) h
noncomputable def NZ :=aK Tryz.f10
noncomputable def HX :=cX [(37,zg)]
def NY (x:(List ArrInt2)×(List ArrInt2))(r:Bool):St→Prop:=QF HX Tryz.f10 [false,false] (Bg x) (Bh r)
theorem Ko (a_1:List ArrInt2)(b_2:List ArrInt2):cD HX 0 (NY (a_1,b_2)) (cL (cL (cR (cL (cR (cR NZ)))))) 0 (si a_1 b_2) (fun u=>(sT 27 [] [] 1)) fun x3=>(sT 27 [(0,.isl false (a_1.map ah)),(1,.isl false (b_2.map ah)),(5,I x3)] [] 1):=ey (xJ a_1 b_2) fun {Q K} hK self ih x3 y h hr hn=>by
 unfold mz at h
 refine cq 5 [11,12] [I x3,.isl false (a_1.map ah)] 33 ?_
 refine oq 49 (I (len a_1)) rfl (bG rfl rfl rfl (cH rfl)) ?_
 refine cq 2 [14] [B (decide (x3<(len a_1)))] 65 ?_
 refine sq h ?_ ?_<;>intro h
 ·refine aq 1 ?_
  refine aq 3 ?_
  refine fa [0,0,3,7,0,0,48,112,255,511] rfl (by decide +kernel) ?_
  refine dk 2 [18,17] [I x3,.isl false (a_1.map ah)] ?_
  obtain⟨e4,he4,h⟩:=bS h
  refine dq [] [] (.iptr (ah e4) 0) rfl (ao rfl rfl rfl (bH rfl rfl rfl rfl he4)) ?_
  refine dq [] [] (ah e4) rfl (cF rfl rfl) ?_
  refine dk 2 [22,21] [I x3,.isl false (b_2.map ah)] ?_
  obtain⟨e5,he5,h⟩:=bS h
  refine dq [] [] (.iptr (ah e5) 0) rfl (ao rfl rfl rfl (bH rfl rfl rfl rfl he5)) ?_
  refine dq [] [] (ah e5) rfl (cF rfl rfl) ?_
  obtain⟨r6,hr6,h⟩:=bS h
  refine dq [] [] (B r6) rfl (cP (NU hr6)) ?_ (dY rfl rfl rfl rfl (bm (bK rfl) (bm (bK rfl) cy)) (NU hr6) (.inr rfl) rfl)
  refine dk 1 [26] [B (!r6)] ?_
  refine de 225 rfl rfl ?_
  refine sq h ?_ ?_<;>intro h
  ·refine cq 4 [4] [B false] 241 ?_
   exact bR rfl (hr _ (ap h) _ (qp [B false]))
  ·refine aq 1 ?_
   refine cq 6 [5] [I (aj (x3+1))] 273 ?_
   refine cZ ?_
   exact rf [0,1,5] [] (ih _ _ h hr hn :)
 ·refine aq 1 ?_
  exact rf [] [] (hn _ (ap h) :) (hk:=hK)
theorem Ri (a_1:List ArrInt2)(b_2:List ArrInt2)(r:Bool)(h:tF a_1 b_2=some r):bT HX Tryz.f10 [false,false] 0 (Bg (a_1,b_2)) (Bh r):=by
 show Run _ _ (NY (a_1,b_2) r) [.code NZ] _
 refine rI 27 [(0,.isl false (a_1.map ah)),(1,.isl false (b_2.map ah))] [] 1 ?_
 unfold tF at h
 refine cq 8 [6] [.isl false (a_1.map ah)] 33 ?_
 refine oq 49 (I (len a_1)) rfl (bG rfl rfl rfl (cH rfl)) ?_
 refine cq 1 [8] [.isl false (b_2.map ah)] 65 ?_
 refine oq 81 (I (len b_2)) rfl (bG rfl rfl rfl (cH rfl)) ?_
 refine cq 2 [10] [B ((len a_1) != (len b_2))] 97 ?_
 refine sq h ?_ ?_<;>intro h
 ·refine cq 4 [4] [B false] 113 ?_
  obtain rfl:=sI h
  exact rP [B false]
 ·refine aq 1 ?_
  refine cq 6 [5] [I (0)] 113 ?_
  obtain⟨y7,hy7,hy71,hy72⟩:=bJ h
  refine bZ rfl ?_
  refine rf [0,1,5] [] (Ko a_1 b_2 rfl 0 _ hy7 (fun r' e st hq=>by rw[hy71 r' e] at hq;exact hq) fun u7 hu=>?_)
  replace h:=hy72 u7 hu
  refine cq 4 [4] [B true] 17 ?_
  obtain rfl:=sI h
  exact rP [B true]
theorem N0 {G:cO}:cM G 10 zh:=gT 2 0 (aU NX bX) cY Tryz.func10 (fun a r h=>Ri a.1 a.2 r h)
def Bi:((List ac)×(List ac))→List V:=cA (ln str) (oA (ln str))
def Bj (r:Bool):V×List V:=(B r,[])
noncomputable def zj :=bC [false,false] Bi Bj fun x=>zi x.1 x.2
theorem VK {a_1:List ac}{b_2:List ac}{r}(h:zi a_1 b_2=some r):zj.F (Bi (a_1,b_2))=some (Bj r):=aQ (bB (d9 bI) (aR (d9 bI))) h
noncomputable def N2 :=aK Tryz.f38
noncomputable def HZ :=cX []
def N1 (x:(List ac)×(List ac))(r:Bool):St→Prop:=QF HZ Tryz.f38 [false,false] (Bi x) (Bj r)
theorem Kp (a_1:List ac)(b_2:List ac):cD HZ 0 (N1 (a_1,b_2)) (cL (cL (cR (cL (cR (cR N2)))))) 0 (sj a_1 b_2) (fun u=>(sT 26 [] [] 1)) fun x3=>(sT 26 [(0,.isl false (a_1.map str)),(1,.isl false (b_2.map str)),(5,I x3)] [] 1):=ey (xK a_1 b_2) fun {Q K} hK self ih x3 y h hr hn=>by
 unfold mA at h
 refine cq 5 [11,12] [I x3,.isl false (a_1.map str)] 33 ?_
 refine oq 49 (I (len a_1)) rfl (bG rfl rfl rfl (cH rfl)) ?_
 refine cq 2 [14] [B (decide (x3<(len a_1)))] 65 ?_
 refine sq h ?_ ?_<;>intro h
 ·refine aq 1 ?_
  refine aq 3 ?_
  refine fa [0,0,3,7,0,0,48,112,255] rfl (by decide +kernel) ?_
  refine dk 2 [18,17] [I x3,.isl false (a_1.map str)] ?_
  obtain⟨e4,he4,h⟩:=bS h
  refine dq [] [] (.iptr (str e4) 0) rfl (ao rfl rfl rfl (bH rfl rfl rfl rfl he4)) ?_
  refine dq [] [] (str e4) rfl (cF rfl rfl) ?_
  refine dk 2 [22,21] [I x3,.isl false (b_2.map str)] ?_
  obtain⟨e5,he5,h⟩:=bS h
  refine dq [] [] (.iptr (str e5) 0) rfl (ao rfl rfl rfl (bH rfl rfl rfl rfl he5)) ?_
  refine dq [] [] (str e5) rfl (cF rfl rfl) ?_
  refine dk 1 [25] [B (!(e4==e5))] ?_
  refine de 209 rfl rfl ?_
  refine sq h ?_ ?_<;>intro h
  ·refine cq 4 [4] [B false] 225 ?_
   exact bR rfl (hr _ (ap h) _ (qp [B false]))
  ·refine aq 1 ?_
   refine cq 6 [5] [I (aj (x3+1))] 257 ?_
   refine cZ ?_
   exact rf [0,1,5] [] (ih _ _ h hr hn :)
 ·refine aq 1 ?_
  exact rf [] [] (hn _ (ap h) :) (hk:=hK)
theorem Rj (a_1:List ac)(b_2:List ac)(r:Bool)(h:zi a_1 b_2=some r):bT HZ Tryz.f38 [false,false] 0 (Bi (a_1,b_2)) (Bj r):=by
 show Run _ _ (N1 (a_1,b_2) r) [.code N2] _
 refine rI 26 [(0,.isl false (a_1.map str)),(1,.isl false (b_2.map str))] [] 1 ?_
 unfold zi at h
 refine cq 8 [6] [.isl false (a_1.map str)] 33 ?_
 refine oq 49 (I (len a_1)) rfl (bG rfl rfl rfl (cH rfl)) ?_
 refine cq 1 [8] [.isl false (b_2.map str)] 65 ?_
 refine oq 81 (I (len b_2)) rfl (bG rfl rfl rfl (cH rfl)) ?_
 refine cq 2 [10] [B ((len a_1) != (len b_2))] 97 ?_
 refine sq h ?_ ?_<;>intro h
 ·refine cq 4 [4] [B false] 113 ?_
  obtain rfl:=sI h
  exact rP [B false]
 ·refine aq 1 ?_
  refine cq 6 [5] [I (0)] 113 ?_
  obtain⟨y6,hy6,hy61,hy62⟩:=bJ h
  refine bZ rfl ?_
  refine rf [0,1,5] [] (Kp a_1 b_2 rfl 0 _ hy6 (fun r' e st hq=>by rw[hy61 r' e] at hq;exact hq) fun u6 hu=>?_)
  replace h:=hy62 u6 hu
  refine cq 4 [4] [B true] 17 ?_
  obtain rfl:=sI h
  exact rP [B true]
theorem N3 {G:cO}:cM G 38 zj:=gT 2 0 bX cY Tryz.func38 (fun a r h=>Rj a.1 a.2 r h)
def DS:(Condition×Condition)→List V:=cA aE (oA aE)
def DT (r:Bool):V×List V:=(B r,[])
noncomputable def tX (br:(Condition×Condition)→Option Bool):Ent:=bC [false,false] DS DT br
theorem I4 (br:(Condition×Condition)→Option Bool){x}{r}(h:br x=some r):(tX br).F (DS x)=some (DT r):=aQ (bB bf (aR bf)) h
def HL:((List Condition)×(List Condition))→List V:=cA (ln au) (oA (ln au))
def HM (r:Bool):V×List V:=(B r,[])
noncomputable def Fi (br:(Condition×Condition)→Option Bool):Ent:=bC [false,false] HL HM fun x=>F4 br x.1 x.2
theorem XZ (br:(Condition×Condition)→Option Bool){a_1:List Condition}{b_2:List Condition}{r}(h:F4 br a_1 b_2=some r):(Fi br).F (HL (a_1,b_2))=some (HM r):=aQ (bB (d9 eW) (aR (d9 eW))) h
noncomputable def T4 :=aK Tryz.f116
noncomputable def MV (br:(Condition×Condition)→Option Bool):Env:=cX [(98,(tX br))]
def T3 (br:(Condition×Condition)→Option Bool)(x:(List Condition)×(List Condition))(r:Bool):St→Prop:=QF (MV br) Tryz.f116 [false,false] (HL x) (HM r)
theorem MW (br:(Condition×Condition)→Option Bool)(a_1:List Condition)(b_2:List Condition):cD (MV br) 0 (T3 br (a_1,b_2)) (cL (cL (cR (cL (cR (cR T4)))))) 0 (tf br a_1 b_2) (fun u=>(sT 27 [] [] 1)) fun x3=>(sT 27 [(0,.isl false (a_1.map au)),(1,.isl false (b_2.map au)),(5,I x3)] [] 1):=ey (DU br a_1 b_2) fun {Q K} hK self ih x3 y h hr hn=>by
 unfold mj at h
 refine cq 5 [11,12] [I x3,.isl false (a_1.map au)] 33 ?_
 refine oq 49 (I (len a_1)) rfl (bG rfl rfl rfl (cH rfl)) ?_
 refine cq 2 [14] [B (decide (x3<(len a_1)))] 65 ?_
 refine sq h ?_ ?_<;>intro h
 ·refine aq 1 ?_
  refine aq 3 ?_
  refine fa [0,0,3,7,0,0,48,112,255,511] rfl (by decide +kernel) ?_
  refine dk 2 [18,17] [I x3,.isl false (a_1.map au)] ?_
  obtain⟨e4,he4,h⟩:=bS h
  refine dq [] [] (.iptr (aa e4) 0) rfl (ao rfl rfl rfl (bH rfl rfl (bd e4) rfl he4)) ?_
  refine dq [] [] (aa e4) rfl (cF rfl rfl) ?_
  refine dk 2 [22,21] [I x3,.isl false (b_2.map au)] ?_
  obtain⟨e5,he5,h⟩:=bS h
  refine dq [] [] (.iptr (aa e5) 0) rfl (ao rfl rfl rfl (bH rfl rfl (bd e5) rfl he5)) ?_
  refine dq [] [] (aa e5) rfl (cF rfl rfl) ?_
  obtain⟨r6,hr6,h⟩:=bS h
  refine dq [] [] (B r6) rfl (aW rfl rfl (bv rfl rfl rfl (bm (bK rfl) (bm (bK rfl) cy)) (I4 br hr6) (.inr rfl) cI rfl rfl rfl)) ?_ (dY rfl rfl rfl rfl (bm (bK rfl) (bm (bK rfl) cy)) (I4 br hr6) (.inr rfl) rfl)
  refine dk 1 [26] [B (!r6)] ?_
  refine de 225 rfl rfl ?_
  refine sq h ?_ ?_<;>intro h
  ·refine cq 4 [4] [B false] 241 ?_
   exact bR rfl (hr _ (ap h) _ (qp [B false]))
  ·refine aq 1 ?_
   refine cq 6 [5] [I (aj (x3+1))] 273 ?_
   refine cZ ?_
   exact rf [0,1,5] [] (ih _ _ h hr hn :)
 ·refine aq 1 ?_
  exact rf [] [] (hn _ (ap h) :) (hk:=hK)
theorem UW (br:(Condition×Condition)→Option Bool)(a_1:List Condition)(b_2:List Condition)(r:Bool)(h:F4 br a_1 b_2=some r):bT (MV br) Tryz.f116 [false,false] 0 (HL (a_1,b_2)) (HM r):=by
 show Run _ _ (T3 br (a_1,b_2) r) [.code T4] _
 refine rI 27 [(0,.isl false (a_1.map au)),(1,.isl false (b_2.map au))] [] 1 ?_
 unfold F4 at h
 refine cq 8 [6] [.isl false (a_1.map au)] 33 ?_
 refine oq 49 (I (len a_1)) rfl (bG rfl rfl rfl (cH rfl)) ?_
 refine cq 1 [8] [.isl false (b_2.map au)] 65 ?_
 refine oq 81 (I (len b_2)) rfl (bG rfl rfl rfl (cH rfl)) ?_
 refine cq 2 [10] [B ((len a_1) != (len b_2))] 97 ?_
 refine sq h ?_ ?_<;>intro h
 ·refine cq 4 [4] [B false] 113 ?_
  obtain rfl:=sI h
  exact rP [B false]
 ·refine aq 1 ?_
  refine cq 6 [5] [I (0)] 113 ?_
  obtain⟨y7,hy7,hy71,hy72⟩:=bJ h
  refine bZ rfl ?_
  refine rf [0,1,5] [] (MW br a_1 b_2 rfl 0 _ hy7 (fun r' e st hq=>by rw[hy71 r' e] at hq;exact hq) fun u7 hu=>?_)
  replace h:=hy72 u7 hu
  refine cq 4 [4] [B true] 17 ?_
  obtain rfl:=sI h
  exact rP [B true]
theorem SG {G:cO}(br:(Condition×Condition)→Option Bool)(Nh:cM G 98 (tX br)):cM G 116 (Fi br):=gT 2 0 (aU Nh bX) cY Tryz.func116 (fun a r h=>UW br a.1 a.2 r h)
noncomputable def Fh :=tX (aA rc)
theorem XW {a_1:Condition}{b_2:Condition}{r}(h:I3 a_1 b_2=some r):Fh.F (DS (a_1,b_2))=some (DT r):=I4 (aA rc) h
noncomputable def XY :=aK Tryz.f98
noncomputable def T1 (br:(Condition×Condition)→Option Bool):Env:=cX [(116,(Fi br))]
def XX (br:(Condition×Condition)→Option Bool)(x:Condition×Condition)(r:Bool):St→Prop:=QF (T1 br) Tryz.f98 [false,false] (DS x) (DT r)
theorem UV (br:(Condition×Condition)→Option Bool)(a_1:Condition)(b_2:Condition)(r:Bool)(h:xf br a_1 b_2=some r):bT (T1 br) Tryz.f98 [false,false] 0 (DS (a_1,b_2)) (DT r):=by
 show Run _ _ (XX br (a_1,b_2) r) [.code XY] _
 refine rI 26 [(0,aa a_1),(1,aa b_2)] [] 1 ?_
 unfold xf at h
 refine ck 15 [2,3,9] [] [1,17] [] [.hp 1 0 [] 4 0 0,.hp 17 0 [] 4 0 0,B (a_1.Op != b_2.Op)] [some ⟨0,4,[aa a_1]⟩,some ⟨0,4,[aa b_2]⟩] 129 (by kernel_rfl) ?_
 refine sq h ?_ ?_<;>intro h
 ·refine cq 4 [4] [B false] 145 ?_
  obtain rfl:=sI h
  exact rP [B false]
 ·refine aq 1 ?_
  refine cq 9 [14] [B (!(a_1.Name==b_2.Name))] 209 ?_
  refine sq h ?_ ?_<;>intro h
  ·refine cq 4 [4] [B false] 225 ?_
   obtain rfl:=sI h
   exact rP [B false]
  ·refine aq 1 ?_
   refine cq 9 [19] [B (a_1.Day != b_2.Day)] 289 ?_
   refine sq h ?_ ?_<;>intro h
   ·refine cq 4 [4] [B false] 305 ?_
    obtain rfl:=sI h
    exact rP [B false]
   ·refine aq 1 ?_
    refine cq 7 [21,23] [.isl false (a_1.Parts.map au),.isl false (b_2.Parts.map au)] 353 ?_
    obtain⟨r3,hr3,h⟩:=bS h
    refine oq 369 (B r3) rfl (aW rfl rfl (bv rfl rfl rfl (bm (bK rfl) (bm (bK rfl) cy)) (XZ br hr3) (.inr rfl) cI rfl rfl rfl)) ?_
    refine cq 2 [25] [B (!r3)] 385 ?_
    refine sq h ?_ ?_<;>intro h
    ·refine cq 4 [4] [B false] 401 ?_
     obtain rfl:=sI h
     exact rP [B false]
    ·refine aq 1 ?_
     refine cq 4 [4] [B true] 401 ?_
     obtain rfl:=sI h
     exact rP [B true]
theorem SF {G:cO}:cM G 98 Fh:=gx fun br Nh=>gT 2 0 (aU (SG br Nh) bX) cY Tryz.func98 (fun a r h=>UV br a.1 a.2 r h)
def HH:(Clause×Clause)→List V:=cA ar (oA ar)
def HI (r:Bool):V×List V:=(B r,[])
noncomputable def Ff :=bC [false,false] HH HI fun x=>F3 x.1 x.2
theorem TY {a_1:Clause}{b_2:Clause}{r}(h:F3 a_1 b_2=some r):Ff.F (HH (a_1,b_2))=some (HI r):=aQ (bB cV (aR cV)) h
noncomputable def XU :=aK Tryz.f72
noncomputable def TX :=cX [(98,Fh)]
def XT (x:Clause×Clause)(r:Bool):St→Prop:=QF TX Tryz.f72 [false,false] (HH x) (HI r)
theorem US (a_1:Clause)(b_2:Clause)(r:Bool)(h:F3 a_1 b_2=some r):bT TX Tryz.f72 [false,false] 0 (HH (a_1,b_2)) (HI r):=by
 show Run _ _ (XT (a_1,b_2) r) [.code XU] _
 refine rI 51 [(0,al a_1),(1,al b_2)] [] 1 ?_
 unfold F3 at h
 refine ck 15 [2,3,9] [] [1,17] [] [.hp 1 0 [] 12 0 0,.hp 17 0 [] 12 0 0,B (!(a_1.Id==b_2.Id))] [some ⟨0,12,[al a_1]⟩,some ⟨0,12,[al b_2]⟩] 129 (by kernel_rfl) ?_
 refine sq h ?_ ?_<;>intro h
 ·refine cq 4 [4] [B false] 145 ?_
  obtain rfl:=sI h
  exact rP [B false]
 ·refine aq 1 ?_
  refine cq 9 [14] [B (a_1.Kind != b_2.Kind)] 209 ?_
  refine sq h ?_ ?_<;>intro h
  ·refine cq 4 [4] [B false] 225 ?_
   obtain rfl:=sI h
   exact rP [B false]
  ·refine aq 1 ?_
   refine cq 9 [19] [B (a_1.Party != b_2.Party)] 289 ?_
   refine sq h ?_ ?_<;>intro h
   ·refine cq 4 [4] [B false] 305 ?_
    obtain rfl:=sI h
    exact rP [B false]
   ·refine aq 1 ?_
    refine cq 9 [24] [B (!(a_1.Action==b_2.Action))] 369 ?_
    refine sq h ?_ ?_<;>intro h
    ·refine cq 4 [4] [B false] 385 ?_
     obtain rfl:=sI h
     exact rP [B false]
    ·refine aq 1 ?_
     refine cq 9 [29] [B (a_1.Other != b_2.Other)] 449 ?_
     refine sq h ?_ ?_<;>intro h
     ·refine cq 4 [4] [B false] 465 ?_
      obtain rfl:=sI h
      exact rP [B false]
     ·refine aq 1 ?_
      refine cq 9 [34] [B (a_1.Amount != b_2.Amount)] 529 ?_
      refine sq h ?_ ?_<;>intro h
      ·refine cq 4 [4] [B false] 545 ?_
       obtain rfl:=sI h
       exact rP [B false]
      ·refine aq 1 ?_
       refine cq 7 [36,38] [aa a_1.When,aa b_2.When] 593 ?_
       obtain⟨r3,hr3,h⟩:=bS h
       refine oq 609 (B r3) rfl (cP (XW hr3)) ?_
       refine cq 2 [40] [B (!r3)] 625 ?_
       refine sq h ?_ ?_<;>intro h
       ·refine cq 4 [4] [B false] 641 ?_
        obtain rfl:=sI h
        exact rP [B false]
       ·refine aq 1 ?_
        refine cq 9 [45] [B (a_1.Within != b_2.Within)] 705 ?_
        refine sq h ?_ ?_<;>intro h
        ·refine cq 4 [4] [B false] 721 ?_
         obtain rfl:=sI h
         exact rP [B false]
        ·refine aq 1 ?_
         refine cq 9 [50] [B (!(a_1.Repair==b_2.Repair))] 785 ?_
         refine sq h ?_ ?_<;>intro h
         ·refine cq 4 [4] [B false] 801 ?_
          obtain rfl:=sI h
          exact rP [B false]
         ·refine aq 1 ?_
          refine cq 4 [4] [B true] 801 ?_
          obtain rfl:=sI h
          exact rP [B true]
theorem SD {G:cO}:cM G 72 Ff:=gT 2 0 (aU SF bX) cY Tryz.func72 (fun a r h=>US a.1 a.2 r h)
def HJ:((List Clause)×(List Clause))→List V:=cA (ln ar) (oA (ln ar))
def HK (r:Bool):V×List V:=(B r,[])
noncomputable def Fg :=bC [false,false] HJ HK fun x=>I2 x.1 x.2
theorem XV {a_1:List Clause}{b_2:List Clause}{r}(h:I2 a_1 b_2=some r):Fg.F (HJ (a_1,b_2))=some (HK r):=aQ (bB (d9 cV) (aR (d9 cV))) h
noncomputable def T0 :=aK Tryz.f39
noncomputable def MT :=cX [(72,Ff)]
def TZ (x:(List Clause)×(List Clause))(r:Bool):St→Prop:=QF MT Tryz.f39 [false,false] (HJ x) (HK r)
theorem MU (a_1:List Clause)(b_2:List Clause):cD MT 0 (TZ (a_1,b_2)) (cL (cL (cR (cL (cR (cR T0)))))) 0 (vZ a_1 b_2) (fun u=>(sT 27 [] [] 1)) fun x3=>(sT 27 [(0,.isl false (a_1.map ar)),(1,.isl false (b_2.map ar)),(5,I x3)] [] 1):=ey (DR a_1 b_2) fun {Q K} hK self ih x3 y h hr hn=>by
 unfold ot at h
 refine cq 5 [11,12] [I x3,.isl false (a_1.map ar)] 33 ?_
 refine oq 49 (I (len a_1)) rfl (bG rfl rfl rfl (cH rfl)) ?_
 refine cq 2 [14] [B (decide (x3<(len a_1)))] 65 ?_
 refine sq h ?_ ?_<;>intro h
 ·refine aq 1 ?_
  refine aq 3 ?_
  refine fa [0,0,3,7,0,0,48,112,255,511] rfl (by decide +kernel) ?_
  refine dk 2 [18,17] [I x3,.isl false (a_1.map ar)] ?_
  obtain⟨e4,he4,h⟩:=bS h
  refine dq [] [] (.iptr (al e4) 0) rfl (ao rfl rfl rfl (bH rfl rfl rfl rfl he4)) ?_
  refine dq [] [] (al e4) rfl (cF rfl rfl) ?_
  refine dk 2 [22,21] [I x3,.isl false (b_2.map ar)] ?_
  obtain⟨e5,he5,h⟩:=bS h
  refine dq [] [] (.iptr (al e5) 0) rfl (ao rfl rfl rfl (bH rfl rfl rfl rfl he5)) ?_
  refine dq [] [] (al e5) rfl (cF rfl rfl) ?_
  obtain⟨r6,hr6,h⟩:=bS h
  refine dq [] [] (B r6) rfl (cP (TY hr6)) ?_ (dY rfl rfl rfl rfl (bm (bK rfl) (bm (bK rfl) cy)) (TY hr6) (.inr rfl) rfl)
  refine dk 1 [26] [B (!r6)] ?_
  refine de 225 rfl rfl ?_
  refine sq h ?_ ?_<;>intro h
  ·refine cq 4 [4] [B false] 241 ?_
   exact bR rfl (hr _ (ap h) _ (qp [B false]))
  ·refine aq 1 ?_
   refine cq 6 [5] [I (aj (x3+1))] 273 ?_
   refine cZ ?_
   exact rf [0,1,5] [] (ih _ _ h hr hn :)
 ·refine aq 1 ?_
  exact rf [] [] (hn _ (ap h) :) (hk:=hK)
theorem UT (a_1:List Clause)(b_2:List Clause)(r:Bool)(h:I2 a_1 b_2=some r):bT MT Tryz.f39 [false,false] 0 (HJ (a_1,b_2)) (HK r):=by
 show Run _ _ (TZ (a_1,b_2) r) [.code T0] _
 refine rI 27 [(0,.isl false (a_1.map ar)),(1,.isl false (b_2.map ar))] [] 1 ?_
 unfold I2 at h
 refine cq 8 [6] [.isl false (a_1.map ar)] 33 ?_
 refine oq 49 (I (len a_1)) rfl (bG rfl rfl rfl (cH rfl)) ?_
 refine cq 1 [8] [.isl false (b_2.map ar)] 65 ?_
 refine oq 81 (I (len b_2)) rfl (bG rfl rfl rfl (cH rfl)) ?_
 refine cq 2 [10] [B ((len a_1) != (len b_2))] 97 ?_
 refine sq h ?_ ?_<;>intro h
 ·refine cq 4 [4] [B false] 113 ?_
  obtain rfl:=sI h
  exact rP [B false]
 ·refine aq 1 ?_
  refine cq 6 [5] [I (0)] 113 ?_
  obtain⟨y7,hy7,hy71,hy72⟩:=bJ h
  refine bZ rfl ?_
  refine rf [0,1,5] [] (MU a_1 b_2 rfl 0 _ hy7 (fun r' e st hq=>by rw[hy71 r' e] at hq;exact hq) fun u7 hu=>?_)
  replace h:=hy72 u7 hu
  refine cq 4 [4] [B true] 17 ?_
  obtain rfl:=sI h
  exact rP [B true]
theorem SE {G:cO}:cM G 39 Fg:=gT 2 0 (aU SD bX) cY Tryz.func39 (fun a r h=>UT a.1 a.2 r h)
def Bc:(Contract×Contract)→List V:=cA aO (oA aO)
def Bd (r:Bool):V×List V:=(B r,[])
noncomputable def zf :=bC [false,false] Bc Bd fun x=>ze x.1 x.2
theorem NS {a_1:Contract}{b_2:Contract}{r}(h:ze a_1 b_2=some r):zf.F (Bc (a_1,b_2))=some (Bd r):=aQ (bB bN (aR bN)) h
noncomputable def VJ :=aK Tryz.f11
noncomputable def NR :=cX [(38,zj),(39,Fg)]
def VI (x:Contract×Contract)(r:Bool):St→Prop:=QF NR Tryz.f11 [false,false] (Bc x) (Bd r)
theorem Rg (a_1:Contract)(b_2:Contract)(r:Bool)(h:ze a_1 b_2=some r):bT NR Tryz.f11 [false,false] 0 (Bc (a_1,b_2)) (Bd r):=by
 show Run _ _ (VI (a_1,b_2) r) [.code VJ] _
 refine rI 17 [(0,ak a_1),(1,ak b_2)] [] 1 ?_
 unfold ze at h
 refine ck 13 [2,3,6,8] [] [1,17] [] [.hp 1 0 [] 2 0 0,.hp 17 0 [] 2 0 0,.isl false (a_1.Parties.map str),.isl false (b_2.Parties.map str)] [some ⟨0,2,[ak a_1]⟩,some ⟨0,2,[ak b_2]⟩] 113 (by kernel_rfl) ?_
 obtain⟨r3,hr3,h⟩:=bS h
 refine oq 129 (B r3) rfl (cP (VK hr3)) ?_
 refine cq 2 [10] [B (!r3)] 145 ?_
 refine sq h ?_ ?_<;>intro h
 ·refine cq 4 [4] [B false] 161 ?_
  obtain rfl:=sI h
  exact rP [B false]
 ·refine aq 1 ?_
  refine cq 7 [12,14] [.isl false (a_1.Clauses.map ar),.isl false (b_2.Clauses.map ar)] 209 ?_
  obtain⟨r4,hr4,h⟩:=bS h
  refine oq 225 (B r4) rfl (cP (XV hr4)) ?_
  refine cq 2 [16] [B (!r4)] 241 ?_
  refine sq h ?_ ?_<;>intro h
  ·refine cq 4 [4] [B false] 257 ?_
   obtain rfl:=sI h
   exact rP [B false]
  ·refine aq 1 ?_
   refine cq 4 [4] [B true] 257 ?_
   obtain rfl:=sI h
   exact rP [B true]
theorem NT {G:cO}:cM G 11 zf:=gT 2 0 (aU N3 (aU SE bX)) cY Tryz.func11 (fun a r h=>Rg a.1 a.2 r h)
def BC:Int→List V:=oA I
def BD (r:ac):V×List V:=(str r,[])
noncomputable def qk :=bC [false] BC BD fun x=>nc x
theorem sw {k_1:Int}{r}(h:nc k_1=some r):qk.F (BC k_1)=some (BD r):=aQ (aR cu) h
noncomputable def Ok :=aK Tryz.f53
noncomputable def H7 :=cX []
def Oj (x:Int)(r:ac):St→Prop:=QF H7 Tryz.f53 [false] (BC x) (BD r)
theorem Kx (k_1:Int):cD H7 0 (Oj k_1) (cL (cL (cL (cR (cR (cR Ok)))))) 0 (sx k_1) (fun u=>(sT 20 [(3,str u)] [] 1)) fun x2=>(sT 20 [(0,I x2.1),(3,str x2.2)] [] 1):=ey (xS k_1) fun {Q K} hK self ih x2 y h hr hn=>by
 unfold kD at h
 refine cq 6 [7] [B (decide (x2.1>0))] 33 ?_
 refine sq h ?_ ?_<;>intro h
 ·refine aq 1 ?_
  refine cq 7 [11] [.int .u8 (IntKind.u8.wrap (aj (48+(x2.1.tmod 10))))] 97 ?_
  refine oq 113 (.hs 97 0 [] 1 0 1) rfl (bW rfl (fh (f:=I) (xs:=[]) (z:=.int .u8 (0)) (es:=[.int .u8 (IntKind.u8.wrap (aj (48+(x2.1.tmod 10))))]) (ws:=[.int .u8 (IntKind.u8.wrap (aj (48+(x2.1.tmod 10))))]) rfl rfl rfl (by decide) rfl (bz rfl) rfl)) ?_
  refine oq 129 (str ([(IntKind.u8.wrap (aj (48+(x2.1.tmod 10))))].map fun n=>UInt8.ofNat n.toNat)) rfl (W5 rfl (SR (xs:=[(IntKind.u8.wrap (aj (48+(x2.1.tmod 10))))]) rfl rfl rfl (Ye (path:=[]) rfl rfl aG rfl))) ?_
  refine cq 1 [14] [str x2.2] 145 ?_
  obtain⟨s3,hs3,h⟩:=bS h
  refine oq 161 (str s3) rfl (xi rfl rfl (T6 hs3)) ?_
  refine cq 8 [0,3] [I (aj (x2.1.tdiv 10)),str s3] 225 ?_
  refine cZ ?_
  exact rf [0,3] [] (ih _ _ h hr hn :)
 ·refine aq 1 ?_
  exact rf [3] [] (hn _ (ap h) :) (hk:=hK)
theorem Rr (k_1:Int)(r:ac)(h:nc k_1=some r):bT H7 Tryz.f53 [false] 0 (BC k_1) (BD r):=by
 show Run _ _ (Oj k_1 r) [.code Ok] _
 refine rI 20 [(0,I k_1)] [] 1 ?_
 unfold nc at h
 refine cq 10 [5] [B (decide (k_1≤0))] 49 ?_
 refine sq h ?_ ?_<;>intro h
 ·refine cq 4 [2] [str ([109,48]:ac)] 65 ?_
  obtain rfl:=sI h
  exact rP [str ([109,48]:ac)]
 ·refine aq 1 ?_
  refine cq 6 [3] [str ([]:ac)] 65 ?_
  obtain⟨y4,hy4,hy41,hy42⟩:=bJ h
  refine bZ rfl ?_
  refine rf [0,3] [] (Kx k_1 rfl (k_1,([]:ac)) _ hy4 (fun r' e st hq=>by rw[hy41 r' e] at hq;exact hq) fun u4 hu=>?_)
  replace h:=hy42 u4 hu
  refine cq 3 [18] [str u4] 17 ?_
  obtain⟨s5,hs5,h⟩:=bS h
  refine oq 33 (str s5) rfl (xi rfl rfl (T6 hs5)) ?_
  refine cq 2 [2] [str s5] 49 ?_
  obtain rfl:=sI h
  exact rP [str s5]
theorem vc {G:cO}:cM G 53 qk:=gT 1 0 bX cY Tryz.func53 (fun a r h=>Rr a r h)
def Bz:((List ac)×Int)→List V:=cA (pG 1 str) (oA I)
def BA (r:Int×(List ac)):V×List V:=(I r.1,[.usl 1 (r.2.map str)])
noncomputable def zu :=bC [true,false] Bz BA fun x=>zt x.1 x.2
theorem VR {a_7:List ac}{k_8:Int}{r}(h:zt a_7 k_8=some r):zu.F (Bz (a_7,k_8))=some (BA r):=aQ (bB (fZ bI) (aR cu)) h
noncomputable def Oh :=aK Tryz.f40
noncomputable def H6 :=cX [(53,qk)]
def Og (x:(List ac)×Int)(r:Int×(List ac)):St→Prop:=QF H6 Tryz.f40 [true,false] (Bz x) (BA r)
theorem Kw (a_7:List ac)(k_8:Int):cD H6 1 (Og (a_7,k_8)) (cL (cL (cR (cL (cR Oh))))) 0 (sv a_7 k_8) (fun u=>(sT 20 [(1,I u.1)] [⟨0,1,u.2.map str⟩] 2)) fun x3=>(sT 20 [(0,.hs 1 0 [] 1 0 (x3.2.2.map str).length),(1,I x3.1),(5,I x3.2.1)] [⟨0,1,x3.2.2.map str⟩] 2):=ey (xR a_7 k_8) fun {Q K} hK self ih x3 y h hr hn=>by
 unfold kC at h
 refine cq 5 [6,7] [I x3.2.1,.hs 1 0 [] 1 0 (x3.2.2.map str).length] 34 ?_
 refine oq 50 (I (len x3.2.2)) rfl (bG rfl rfl rfl (gS (f:=str) (xs:=x3.2.2) rfl rfl)) ?_
 refine cq 2 [9] [B (decide (x3.2.1<(len x3.2.2)))] 66 ?_
 refine sq h ?_ ?_<;>intro h
 ·refine aq 1 ?_
  refine cq 7 [12,13,14] [.hs 1 0 [] 1 0 (x3.2.2.map str).length,I x3.2.1,I x3.1] 114 ?_
  obtain⟨r4,hr4,h⟩:=bS h
  refine oq 130 (str r4) rfl (cP (sw hr4)) ?_
  obtain⟨e5,he5,h⟩:=bS h
  refine oq 146 (.hp 1 0 [] 1 (0+Int.toNat x3.2.1) 0) rfl (ao rfl rfl rfl (dJ (f:=str) (xs:=x3.2.2) rfl rfl rfl he5)) ?_
  refine o0 162 rfl rfl (fw rfl rfl (eq (path:=[]) (pl:=true) (e':=str r4) (es2':=(cS x3.2.2 x3.2.1 r4).map str) rfl (bq rfl) rfl rfl rfl aG (cT (f:=str) (xs:=x3.2.2) he5) rfl rfl rfl (jz (f:=str) (xs:=x3.2.2) (y:=r4)) d7 0 rfl)) ?_
  try rw[←gZ (f:=str) (xs:=x3.2.2) (i:=x3.2.1) (z:=r4)]
  refine cq 12 [1,5] [I (aj (x3.1+1)),I (aj (x3.2.1+1))] 258 ?_
  refine cZ ?_
  exact rf [0,1,5] [1] (ih _ _ h hr hn :)
 ·refine aq 1 ?_
  exact rf [1] [1] (hn _ (ap h) :) (hk:=hK)
theorem Rq (a_7:List ac)(k_8:Int)(r:Int×(List ac))(h:zt a_7 k_8=some r):bT H6 Tryz.f40 [true,false] 1 (Bz (a_7,k_8)) (BA r):=by
 show Run _ _ (Og (a_7,k_8) r) [.code Oh] _
 refine rI 20 [(0,.hs 1 0 [] 1 0 (a_7.map str).length),(1,I k_8)] [(1,some ⟨0,1,a_7.map str⟩)] 2 ?_
 unfold zt at h
 refine cq 10 [5] [I (0)] 34 ?_
 obtain⟨y6,hy6,hy61,hy62⟩:=bJ h
 refine bZ rfl ?_
 refine rf [0,1,5] [1] (Kw a_7 k_8 rfl (k_8,0,a_7) _ hy6 (fun r' e st hq=>by rw[hy61 r' e] at hq;exact hq) fun u6 hu=>?_)
 replace h:=hy62 u6 hu
 refine cq 5 [4] [I u6.1] 34 ?_
 obtain⟨g7,h⟩:=gG h
 obtain rfl:=sI h
 exact bR rfl ⟨_,fin (vs:=[I u6.1]) rfl (ec (bq rfl) dZ) rfl (kr rfl (Em (f:=str) (xs:=u6.2) (by simpa using g7) rfl) (ed eH)),Ns eE⟩
theorem Oi {G:cO}:cM G 40 zu:=gT 2 1 (aU vc bX) cY Tryz.func40 (fun a r h=>Rq a.1 a.2 r h)
def uZ:((List Condition)×Int)→List V:=cA (pG 4 ae) (oA I)
def va (r:Int×(List Condition)):V×List V:=(I r.1,[.usl 4 (r.2.map ae)])
noncomputable def vb (cb:((List Condition)×Int)→Option (Int×(List Condition))):Ent:=bC [true,false] uZ va cb
theorem Lq (cb:((List Condition)×Int)→Option (Int×(List Condition))){x}{r}(h:cb x=some r):(vb cb).F (uZ x)=some (va r):=aQ (bB (fZ kZ) (aR cu)) h
noncomputable def zn :=vb (aA kA)
theorem VM {a_6:List Condition}{k_7:Int}{r}(h:Mm a_6 k_7=some r):zn.F (uZ (a_6,k_7))=some (va r):=Lq (aA kA) h
noncomputable def Oa :=aK Tryz.f73
noncomputable def H3 (cb:((List Condition)×Int)→Option (Int×(List Condition))):Env:=cX [(53,qk),(73,(vb cb))]
def N9 (cb:((List Condition)×Int)→Option (Int×(List Condition)))(x:(List Condition)×Int)(r:Int×(List Condition)):St→Prop:=QF (H3 cb) Tryz.f73 [true,false] (uZ x) (va r)
theorem Kt (cb:((List Condition)×Int)→Option (Int×(List Condition)))(a_6:List Condition)(k_7:Int):cD (H3 cb) 1 (N9 cb (a_6,k_7)) (cL (cL (cR (cL (cR Oa))))) 0 (ls cb a_6 k_7) (fun u=>(sT 42 [(1,I u.1)] [⟨0,4,u.2.map ae⟩] 2)) fun x3=>(sT 42 [(0,.hs 1 0 [] 4 0 (x3.2.2.map ae).length),(1,I x3.1),(5,I x3.2.1)] [⟨0,4,x3.2.2.map ae⟩] 2):=ey (xO cb a_6 k_7) fun {Q K} hK self ih x3 y h hr hn=>by
 unfold jE at h
 refine cq 5 [6,7] [I x3.2.1,.hs 1 0 [] 4 0 (x3.2.2.map ae).length] 34 ?_
 refine oq 50 (I (len x3.2.2)) rfl (bG rfl rfl rfl (gS (f:=ae) (xs:=x3.2.2) rfl rfl)) ?_
 refine cq 2 [9] [B (decide (x3.2.1<(len x3.2.2)))] 66 ?_
 refine sq h ?_ ?_<;>intro h
 ·refine aq 1 ?_
  refine cq 7 [12,13,14] [.hs 1 0 [] 4 0 (x3.2.2.map ae).length,I x3.2.1,I x3.1] 114 ?_
  obtain⟨e4,he4,h⟩:=bS h
  refine oq 130 (.hp 1 0 [] 4 (0+Int.toNat x3.2.1) 0) rfl (ao rfl rfl rfl (dJ (f:=ae) (xs:=x3.2.2) rfl rfl rfl he4)) ?_
  refine cq 1 [16] [.hp 1 0 [] 4 (0+Int.toNat x3.2.1) 0] 146 ?_
  refine o0 162 rfl rfl (fw rfl rfl (eq (path:=[]) (pl:=true) (e':=.agg [I x3.1,str e4.Name,I e4.Day,.usl 4 (e4.Parts.map ae)]) (es2':=(cS x3.2.2 x3.2.1 (Condition.mk x3.1 e4.Name e4.Day e4.Parts)).map ae) rfl (bq rfl) rfl rfl rfl aG (lb (f:=ae) (xs:=x3.2.2) (cW e4) he4) rfl rfl rfl (A4 (f:=ae) (xs:=x3.2.2) (cW (Condition.mk x3.1 e4.Name e4.Day e4.Parts))) d7 0 rfl)) ?_
  try rw[←gZ (f:=ae) (xs:=x3.2.2) (i:=x3.2.1) (z:=(Condition.mk x3.1 e4.Name e4.Day e4.Parts))]
  refine cq 12 [1,19,20,21] [I (aj (x3.1+1)),.hs 1 0 [] 4 0 ((cS x3.2.2 x3.2.1 (Condition.mk x3.1 e4.Name e4.Day e4.Parts)).map ae).length,I x3.2.1,I (aj (x3.1+1))] 258 ?_
  obtain⟨r5,hr5,h⟩:=bS h
  refine oq 274 (str r5) rfl (cP (sw hr5)) ?_
  obtain⟨e6,he6,h⟩:=bS h
  refine oq 290 (.hp 1 0 [] 4 (0+Int.toNat x3.2.1) 0) rfl (ao rfl rfl rfl (dJ (f:=ae) (xs:=(cS x3.2.2 x3.2.1 (Condition.mk x3.1 e4.Name e4.Day e4.Parts))) rfl rfl rfl he6)) ?_
  refine cq 1 [24] [.hp 1 0 [] 4 (0+Int.toNat x3.2.1) 1] 306 ?_
  obtain⟨rw7,hrw7,h⟩:=lJ h
  refine o0 322 rfl rfl (fw rfl rfl (eq (path:=[]) (pl:=true) (e':=.agg [I e6.Op,str r5,I e6.Day,.usl 4 (e6.Parts.map ae)]) (es2':=(rw7).map ae) rfl (bq rfl) rfl rfl rfl aG (lb (f:=ae) (xs:=(cS x3.2.2 x3.2.1 (Condition.mk x3.1 e4.Name e4.Day e4.Parts))) (cW e6) he6) rfl rfl rfl (wK (f:=ae) (xs:=(cS x3.2.2 x3.2.1 (Condition.mk x3.1 e4.Name e4.Day e4.Parts))) (cW (Condition.mk e6.Op r5 e6.Day e6.Parts)) hrw7) d7 0 rfl)) ?_
  try rw[←fz hrw7 (f:=ae) (xs:=(cS x3.2.2 x3.2.1 (Condition.mk x3.1 e4.Name e4.Day e4.Parts)))]
  refine cq 12 [1,27,28,29] [I (aj ((aj (x3.1+1))+1)),.hs 1 0 [] 4 0 (rw7.map ae).length,I x3.2.1,I (aj ((aj (x3.1+1))+1))] 418 ?_
  obtain⟨e9,he9,h⟩:=bS h
  refine oq 434 (.hp 1 0 [] 4 (0+Int.toNat x3.2.1) 0) rfl (ao rfl rfl rfl (dJ (f:=ae) (xs:=rw7) rfl rfl rfl he9)) ?_
  refine cq 1 [31] [.hp 1 0 [] 4 (0+Int.toNat x3.2.1) 2] 450 ?_
  obtain⟨rw10,hrw10,h⟩:=lJ h
  refine o0 466 rfl rfl (fw rfl rfl (eq (path:=[]) (pl:=true) (e':=.agg [I e9.Op,str e9.Name,I (aj ((aj (x3.1+1))+1)),.usl 4 (e9.Parts.map ae)]) (es2':=(rw10).map ae) rfl (bq rfl) rfl rfl rfl aG (lb (f:=ae) (xs:=rw7) (cW e9) he9) rfl rfl rfl (wK (f:=ae) (xs:=rw7) (cW (Condition.mk e9.Op e9.Name (aj ((aj (x3.1+1))+1)) e9.Parts)) hrw10) d7 0 rfl)) ?_
  try rw[←fz hrw10 (f:=ae) (xs:=rw7)]
  refine cq 10 [1,34,35] [I (aj ((aj ((aj (x3.1+1))+1))+1)),.hs 1 0 [] 4 0 (rw10.map ae).length,I x3.2.1] 546 ?_
  obtain⟨e13,he13,h⟩:=bS h
  refine oq 562 (.hp 1 0 [] 4 (0+Int.toNat x3.2.1) 0) rfl (ao rfl rfl rfl (dJ (f:=ae) (xs:=rw10) rfl rfl rfl he13)) ?_
  refine cq 1 [37] [.hp 1 0 [] 4 (0+Int.toNat x3.2.1) 3] 578 ?_
  refine oq 594 (.hs 1 0 [((0+Int.toNat x3.2.1),3)] 4 0 (e13.Parts.map ae).length) rfl (cF rfl (iR (path:=[]) rfl rfl rfl aG (lb (f:=ae) (xs:=rw10) (cW e13) he13) rfl rfl rfl)) ?_
  refine cq 1 [39] [I (aj ((aj ((aj (x3.1+1))+1))+1))] 610 ?_
  obtain⟨r14,hr14,h⟩:=bS h
  obtain⟨g15,h⟩:=gG h
  obtain⟨rw16,hrw16,h⟩:=lJ h
  refine oq 626 (I r14.1) rfl (aW rfl rfl (bv rfl rfl rfl (fq (fb rfl (dH (path:=[((0+Int.toNat x3.2.1),3)]) rfl rfl (ii (lb (f:=ae) (xs:=rw10) (cW e13) he13) rfl aG) rfl)) (bm (bK rfl) cy)) (Lq cb hr14) (.inr rfl) (fU rfl rfl rfl (M6 (ii (lb (f:=ae) (xs:=rw10) (cW e13) he13) rfl aG) (kj (f:=ae) (xs:=e13.Parts) (ys:=r14.2) g15).symm (NG (lb (f:=ae) (xs:=rw10) (cW e13) he13) rfl d7 (rfl:(_:V)=.agg [I e13.Op,str e13.Name,I e13.Day,.usl 4 (r14.2.map ae)]) (wK (f:=ae) (xs:=rw10) (cW (Condition.mk e13.Op e13.Name e13.Day r14.2)) hrw16))) cI) rfl rfl rfl)) ?_
  try rw[kj (f:=ae) (xs:=e13.Parts) (ys:=r14.2) g15]
  try rw[←fz hrw16 (f:=ae) (xs:=rw10)]
  refine cq 8 [1,5] [I r14.1,I (aj (x3.2.1+1))] 690 ?_
  refine cZ ?_
  exact rf [0,1,5] [1] (ih _ _ h hr hn :)
 ·refine aq 1 ?_
  exact rf [1] [1] (hn _ (ap h) :) (hk:=hK)
theorem Rn (cb:((List Condition)×Int)→Option (Int×(List Condition)))(a_6:List Condition)(k_7:Int)(r:Int×(List Condition))(h:sr cb a_6 k_7=some r):bT (H3 cb) Tryz.f73 [true,false] 1 (uZ (a_6,k_7)) (va r):=by
 show Run _ _ (N9 cb (a_6,k_7) r) [.code Oa] _
 refine rI 42 [(0,.hs 1 0 [] 4 0 (a_6.map ae).length),(1,I k_7)] [(1,some ⟨0,4,a_6.map ae⟩)] 2 ?_
 unfold sr at h
 refine cq 10 [5] [I (0)] 34 ?_
 obtain⟨y20,hy20,hy201,hy202⟩:=bJ h
 refine bZ rfl ?_
 refine rf [0,1,5] [1] (Kt cb a_6 k_7 rfl (k_7,0,a_6) _ hy20 (fun r' e st hq=>by rw[hy201 r' e] at hq;exact hq) fun u20 hu=>?_)
 replace h:=hy202 u20 hu
 refine cq 5 [4] [I u20.1] 34 ?_
 obtain⟨g21,h⟩:=gG h
 obtain rfl:=sI h
 exact bR rfl ⟨_,fin (vs:=[I u20.1]) rfl (ec (bq rfl) dZ) rfl (kr rfl (Em (f:=ae) (xs:=u20.2) (by simpa using g21) rfl) (ed eH)),Ns eE⟩
theorem Ob {G:cO}:cM G 73 zn:=gx fun cb g_Ffbg=>gT 2 1 (aU vc (aU g_Ffbg bX)) cY Tryz.func73 (fun a r h=>Rn cb a.1 a.2 r h)
def Bo:((List Clause)×Int)→List V:=cA (pG 12 ai) (oA I)
def Bp (r:Int×(List Clause)):V×List V:=(I r.1,[.usl 12 (r.2.map ai)])
noncomputable def zm :=bC [true,false] Bo Bp fun x=>zl x.1 x.2
theorem VL {a_7:List Clause}{k_8:Int}{r}(h:zl a_7 k_8=some r):zm.F (Bo (a_7,k_8))=some (Bp r):=aQ (bB (fZ ri) (aR cu)) h
noncomputable def N7 :=aK Tryz.f41
noncomputable def H2 :=cX [(53,qk),(73,zn)]
def N6 (x:(List Clause)×Int)(r:Int×(List Clause)):St→Prop:=QF H2 Tryz.f41 [true,false] (Bo x) (Bp r)
theorem Ks (a_7:List Clause)(k_8:Int):cD H2 1 (N6 (a_7,k_8)) (cL (cL (cR (cL (cR N7))))) 0 (mB a_7 k_8) (fun u=>(sT 105 [(1,I u.1)] [⟨0,12,u.2.map ai⟩] 2)) fun x3=>(sT 105 [(0,.hs 1 0 [] 12 0 (x3.2.2.map ai).length),(1,I x3.1),(5,I x3.2.1)] [⟨0,12,x3.2.2.map ai⟩] 2):=ey (xN a_7 k_8) fun {Q K} hK self ih x3 y h hr hn=>by
 unfold kz at h
 refine cq 5 [6,7] [I x3.2.1,.hs 1 0 [] 12 0 (x3.2.2.map ai).length] 34 ?_
 refine oq 50 (I (len x3.2.2)) rfl (bG rfl rfl rfl (gS (f:=ai) (xs:=x3.2.2) rfl rfl)) ?_
 refine cq 2 [9] [B (decide (x3.2.1<(len x3.2.2)))] 66 ?_
 refine sq h ?_ ?_<;>intro h
 ·refine aq 1 ?_
  refine cq 7 [12,13,14] [.hs 1 0 [] 12 0 (x3.2.2.map ai).length,I x3.2.1,I x3.1] 114 ?_
  obtain⟨r4,hr4,h⟩:=bS h
  refine oq 130 (str r4) rfl (cP (sw hr4)) ?_
  obtain⟨e5,he5,h⟩:=bS h
  refine oq 146 (.hp 1 0 [] 12 (0+Int.toNat x3.2.1) 0) rfl (ao rfl rfl rfl (dJ (f:=ai) (xs:=x3.2.2) rfl rfl rfl he5)) ?_
  refine cq 1 [17] [.hp 1 0 [] 12 (0+Int.toNat x3.2.1) 0] 162 ?_
  refine o0 178 rfl rfl (fw rfl rfl (eq (path:=[]) (pl:=true) (e':=.agg [str r4,I e5.Kind,I e5.Party,str e5.Action,I e5.Other,I e5.Amount,I e5.When.Op,str e5.When.Name,I e5.When.Day,.usl 4 (e5.When.Parts.map ae),I e5.Within,str e5.Repair]) (es2':=(cS x3.2.2 x3.2.1 (Clause.mk r4 e5.Kind e5.Party e5.Action e5.Other e5.Amount e5.When e5.Within e5.Repair)).map ai) rfl (bq rfl) rfl rfl rfl aG (cT (f:=ai) (xs:=x3.2.2) he5) rfl rfl rfl (jz (f:=ai) (xs:=x3.2.2) (y:=(Clause.mk r4 e5.Kind e5.Party e5.Action e5.Other e5.Amount e5.When e5.Within e5.Repair))) d7 0 rfl)) ?_
  try rw[←gZ (f:=ai) (xs:=x3.2.2) (i:=x3.2.1) (z:=(Clause.mk r4 e5.Kind e5.Party e5.Action e5.Other e5.Amount e5.When e5.Within e5.Repair))]
  refine cq 12 [1,20,21,22] [I (aj (x3.1+1)),.hs 1 0 [] 12 0 ((cS x3.2.2 x3.2.1 (Clause.mk r4 e5.Kind e5.Party e5.Action e5.Other e5.Amount e5.When e5.Within e5.Repair)).map ai).length,I x3.2.1,I (aj (x3.1+1))] 274 ?_
  obtain⟨e6,he6,h⟩:=bS h
  refine oq 290 (.hp 1 0 [] 12 (0+Int.toNat x3.2.1) 0) rfl (ao rfl rfl rfl (dJ (f:=ai) (xs:=(cS x3.2.2 x3.2.1 (Clause.mk r4 e5.Kind e5.Party e5.Action e5.Other e5.Amount e5.When e5.Within e5.Repair))) rfl rfl rfl he6)) ?_
  refine cq 1 [24] [.hp 1 0 [] 12 (0+Int.toNat x3.2.1) 1] 306 ?_
  obtain⟨rw7,hrw7,h⟩:=lJ h
  refine o0 322 rfl rfl (fw rfl rfl (eq (path:=[]) (pl:=true) (e':=.agg [str e6.Id,I (aj (x3.1+1)),I e6.Party,str e6.Action,I e6.Other,I e6.Amount,I e6.When.Op,str e6.When.Name,I e6.When.Day,.usl 4 (e6.When.Parts.map ae),I e6.Within,str e6.Repair]) (es2':=(rw7).map ai) rfl (bq rfl) rfl rfl rfl aG (cT (f:=ai) (xs:=(cS x3.2.2 x3.2.1 (Clause.mk r4 e5.Kind e5.Party e5.Action e5.Other e5.Amount e5.When e5.Within e5.Repair))) he6) rfl rfl rfl (iC (f:=ai) (xs:=(cS x3.2.2 x3.2.1 (Clause.mk r4 e5.Kind e5.Party e5.Action e5.Other e5.Amount e5.When e5.Within e5.Repair))) (y:=(Clause.mk e6.Id (aj (x3.1+1)) e6.Party e6.Action e6.Other e6.Amount e6.When e6.Within e6.Repair)) hrw7) d7 0 rfl)) ?_
  try rw[←fz hrw7 (f:=ai) (xs:=(cS x3.2.2 x3.2.1 (Clause.mk r4 e5.Kind e5.Party e5.Action e5.Other e5.Amount e5.When e5.Within e5.Repair)))]
  refine cq 12 [1,27,28,29] [I (aj ((aj (x3.1+1))+1)),.hs 1 0 [] 12 0 (rw7.map ai).length,I x3.2.1,I (aj ((aj (x3.1+1))+1))] 418 ?_
  obtain⟨e9,he9,h⟩:=bS h
  refine oq 434 (.hp 1 0 [] 12 (0+Int.toNat x3.2.1) 0) rfl (ao rfl rfl rfl (dJ (f:=ai) (xs:=rw7) rfl rfl rfl he9)) ?_
  refine cq 1 [31] [.hp 1 0 [] 12 (0+Int.toNat x3.2.1) 2] 450 ?_
  obtain⟨rw10,hrw10,h⟩:=lJ h
  refine o0 466 rfl rfl (fw rfl rfl (eq (path:=[]) (pl:=true) (e':=.agg [str e9.Id,I e9.Kind,I (aj ((aj (x3.1+1))+1)),str e9.Action,I e9.Other,I e9.Amount,I e9.When.Op,str e9.When.Name,I e9.When.Day,.usl 4 (e9.When.Parts.map ae),I e9.Within,str e9.Repair]) (es2':=(rw10).map ai) rfl (bq rfl) rfl rfl rfl aG (cT (f:=ai) (xs:=rw7) he9) rfl rfl rfl (iC (f:=ai) (xs:=rw7) (y:=(Clause.mk e9.Id e9.Kind (aj ((aj (x3.1+1))+1)) e9.Action e9.Other e9.Amount e9.When e9.Within e9.Repair)) hrw10) d7 0 rfl)) ?_
  try rw[←fz hrw10 (f:=ai) (xs:=rw7)]
  refine cq 12 [1,34,35,36] [I (aj ((aj ((aj (x3.1+1))+1))+1)),.hs 1 0 [] 12 0 (rw10.map ai).length,I x3.2.1,I (aj ((aj ((aj (x3.1+1))+1))+1))] 562 ?_
  obtain⟨r13,hr13,h⟩:=bS h
  refine oq 578 (str r13) rfl (cP (sw hr13)) ?_
  obtain⟨e14,he14,h⟩:=bS h
  refine oq 594 (.hp 1 0 [] 12 (0+Int.toNat x3.2.1) 0) rfl (ao rfl rfl rfl (dJ (f:=ai) (xs:=rw10) rfl rfl rfl he14)) ?_
  refine cq 1 [39] [.hp 1 0 [] 12 (0+Int.toNat x3.2.1) 3] 610 ?_
  obtain⟨rw15,hrw15,h⟩:=lJ h
  refine o0 626 rfl rfl (fw rfl rfl (eq (path:=[]) (pl:=true) (e':=.agg [str e14.Id,I e14.Kind,I e14.Party,str r13,I e14.Other,I e14.Amount,I e14.When.Op,str e14.When.Name,I e14.When.Day,.usl 4 (e14.When.Parts.map ae),I e14.Within,str e14.Repair]) (es2':=(rw15).map ai) rfl (bq rfl) rfl rfl rfl aG (cT (f:=ai) (xs:=rw10) he14) rfl rfl rfl (iC (f:=ai) (xs:=rw10) (y:=(Clause.mk e14.Id e14.Kind e14.Party r13 e14.Other e14.Amount e14.When e14.Within e14.Repair)) hrw15) d7 0 rfl)) ?_
  try rw[←fz hrw15 (f:=ai) (xs:=rw10)]
  refine cq 12 [1,42,43,44] [I (aj ((aj ((aj ((aj (x3.1+1))+1))+1))+1)),.hs 1 0 [] 12 0 (rw15.map ai).length,I x3.2.1,I (aj ((aj ((aj ((aj (x3.1+1))+1))+1))+1))] 722 ?_
  obtain⟨e19,he19,h⟩:=bS h
  refine oq 738 (.hp 1 0 [] 12 (0+Int.toNat x3.2.1) 0) rfl (ao rfl rfl rfl (dJ (f:=ai) (xs:=rw15) rfl rfl rfl he19)) ?_
  refine cq 1 [46] [.hp 1 0 [] 12 (0+Int.toNat x3.2.1) 4] 754 ?_
  obtain⟨rw20,hrw20,h⟩:=lJ h
  refine o0 770 rfl rfl (fw rfl rfl (eq (path:=[]) (pl:=true) (e':=.agg [str e19.Id,I e19.Kind,I e19.Party,str e19.Action,I (aj ((aj ((aj ((aj (x3.1+1))+1))+1))+1)),I e19.Amount,I e19.When.Op,str e19.When.Name,I e19.When.Day,.usl 4 (e19.When.Parts.map ae),I e19.Within,str e19.Repair]) (es2':=(rw20).map ai) rfl (bq rfl) rfl rfl rfl aG (cT (f:=ai) (xs:=rw15) he19) rfl rfl rfl (iC (f:=ai) (xs:=rw15) (y:=(Clause.mk e19.Id e19.Kind e19.Party e19.Action (aj ((aj ((aj ((aj (x3.1+1))+1))+1))+1)) e19.Amount e19.When e19.Within e19.Repair)) hrw20) d7 0 rfl)) ?_
  try rw[←fz hrw20 (f:=ai) (xs:=rw15)]
  refine cq 12 [1,49,50,51] [I (aj ((aj ((aj ((aj ((aj (x3.1+1))+1))+1))+1))+1)),.hs 1 0 [] 12 0 (rw20.map ai).length,I x3.2.1,I (aj ((aj ((aj ((aj ((aj (x3.1+1))+1))+1))+1))+1))] 866 ?_
  obtain⟨e25,he25,h⟩:=bS h
  refine oq 882 (.hp 1 0 [] 12 (0+Int.toNat x3.2.1) 0) rfl (ao rfl rfl rfl (dJ (f:=ai) (xs:=rw20) rfl rfl rfl he25)) ?_
  refine cq 1 [53] [.hp 1 0 [] 12 (0+Int.toNat x3.2.1) 5] 898 ?_
  obtain⟨rw26,hrw26,h⟩:=lJ h
  refine o0 914 rfl rfl (fw rfl rfl (eq (path:=[]) (pl:=true) (e':=.agg [str e25.Id,I e25.Kind,I e25.Party,str e25.Action,I e25.Other,I (aj ((aj ((aj ((aj ((aj (x3.1+1))+1))+1))+1))+1)),I e25.When.Op,str e25.When.Name,I e25.When.Day,.usl 4 (e25.When.Parts.map ae),I e25.Within,str e25.Repair]) (es2':=(rw26).map ai) rfl (bq rfl) rfl rfl rfl aG (cT (f:=ai) (xs:=rw20) he25) rfl rfl rfl (iC (f:=ai) (xs:=rw20) (y:=(Clause.mk e25.Id e25.Kind e25.Party e25.Action e25.Other (aj ((aj ((aj ((aj ((aj (x3.1+1))+1))+1))+1))+1)) e25.When e25.Within e25.Repair)) hrw26) d7 0 rfl)) ?_
  try rw[←fz hrw26 (f:=ai) (xs:=rw20)]
  refine cq 12 [1,56,57,58] [I (aj ((aj ((aj ((aj ((aj ((aj (x3.1+1))+1))+1))+1))+1))+1)),.hs 1 0 [] 12 0 (rw26.map ai).length,I x3.2.1,I (aj ((aj ((aj ((aj ((aj ((aj (x3.1+1))+1))+1))+1))+1))+1))] 1010 ?_
  obtain⟨e32,he32,h⟩:=bS h
  refine oq 1026 (.hp 1 0 [] 12 (0+Int.toNat x3.2.1) 0) rfl (ao rfl rfl rfl (dJ (f:=ai) (xs:=rw26) rfl rfl rfl he32)) ?_
  refine cq 2 [61] [.hp 1 0 [] 12 (0+Int.toNat x3.2.1) 6] 1058 ?_
  obtain⟨rw33,hrw33,h⟩:=lJ h
  refine o0 1074 rfl rfl (fw rfl rfl (eq (path:=[]) (pl:=true) (e':=.agg [str e32.Id,I e32.Kind,I e32.Party,str e32.Action,I e32.Other,I e32.Amount,I (aj ((aj ((aj ((aj ((aj ((aj (x3.1+1))+1))+1))+1))+1))+1)),str e32.When.Name,I e32.When.Day,.usl 4 (e32.When.Parts.map ae),I e32.Within,str e32.Repair]) (es2':=(rw33).map ai) rfl (bq rfl) rfl rfl rfl aG (cT (f:=ai) (xs:=rw26) he32) rfl rfl rfl (iC (f:=ai) (xs:=rw26) (y:=(Clause.mk e32.Id e32.Kind e32.Party e32.Action e32.Other e32.Amount (Condition.mk (aj ((aj ((aj ((aj ((aj ((aj (x3.1+1))+1))+1))+1))+1))+1)) e32.When.Name e32.When.Day e32.When.Parts) e32.Within e32.Repair)) hrw33) d7 0 rfl)) ?_
  try rw[←fz hrw33 (f:=ai) (xs:=rw26)]
  refine cq 12 [1,64,65,66] [I (aj ((aj ((aj ((aj ((aj ((aj ((aj (x3.1+1))+1))+1))+1))+1))+1))+1)),.hs 1 0 [] 12 0 (rw33.map ai).length,I x3.2.1,I (aj ((aj ((aj ((aj ((aj ((aj ((aj (x3.1+1))+1))+1))+1))+1))+1))+1))] 1170 ?_
  obtain⟨r40,hr40,h⟩:=bS h
  refine oq 1186 (str r40) rfl (cP (sw hr40)) ?_
  obtain⟨e41,he41,h⟩:=bS h
  refine oq 1202 (.hp 1 0 [] 12 (0+Int.toNat x3.2.1) 0) rfl (ao rfl rfl rfl (dJ (f:=ai) (xs:=rw33) rfl rfl rfl he41)) ?_
  refine cq 2 [70] [.hp 1 0 [] 12 (0+Int.toNat x3.2.1) 7] 1234 ?_
  obtain⟨rw42,hrw42,h⟩:=lJ h
  refine o0 1250 rfl rfl (fw rfl rfl (eq (path:=[]) (pl:=true) (e':=.agg [str e41.Id,I e41.Kind,I e41.Party,str e41.Action,I e41.Other,I e41.Amount,I e41.When.Op,str r40,I e41.When.Day,.usl 4 (e41.When.Parts.map ae),I e41.Within,str e41.Repair]) (es2':=(rw42).map ai) rfl (bq rfl) rfl rfl rfl aG (cT (f:=ai) (xs:=rw33) he41) rfl rfl rfl (iC (f:=ai) (xs:=rw33) (y:=(Clause.mk e41.Id e41.Kind e41.Party e41.Action e41.Other e41.Amount (Condition.mk e41.When.Op r40 e41.When.Day e41.When.Parts) e41.Within e41.Repair)) hrw42) d7 0 rfl)) ?_
  try rw[←fz hrw42 (f:=ai) (xs:=rw33)]
  refine cq 12 [1,73,74,75] [I (aj ((aj ((aj ((aj ((aj ((aj ((aj ((aj (x3.1+1))+1))+1))+1))+1))+1))+1))+1)),.hs 1 0 [] 12 0 (rw42.map ai).length,I x3.2.1,I (aj ((aj ((aj ((aj ((aj ((aj ((aj ((aj (x3.1+1))+1))+1))+1))+1))+1))+1))+1))] 1346 ?_
  obtain⟨e50,he50,h⟩:=bS h
  refine oq 1362 (.hp 1 0 [] 12 (0+Int.toNat x3.2.1) 0) rfl (ao rfl rfl rfl (dJ (f:=ai) (xs:=rw42) rfl rfl rfl he50)) ?_
  refine cq 2 [78] [.hp 1 0 [] 12 (0+Int.toNat x3.2.1) 8] 1394 ?_
  obtain⟨rw51,hrw51,h⟩:=lJ h
  refine o0 1410 rfl rfl (fw rfl rfl (eq (path:=[]) (pl:=true) (e':=.agg [str e50.Id,I e50.Kind,I e50.Party,str e50.Action,I e50.Other,I e50.Amount,I e50.When.Op,str e50.When.Name,I (aj ((aj ((aj ((aj ((aj ((aj ((aj ((aj (x3.1+1))+1))+1))+1))+1))+1))+1))+1)),.usl 4 (e50.When.Parts.map ae),I e50.Within,str e50.Repair]) (es2':=(rw51).map ai) rfl (bq rfl) rfl rfl rfl aG (cT (f:=ai) (xs:=rw42) he50) rfl rfl rfl (iC (f:=ai) (xs:=rw42) (y:=(Clause.mk e50.Id e50.Kind e50.Party e50.Action e50.Other e50.Amount (Condition.mk e50.When.Op e50.When.Name (aj ((aj ((aj ((aj ((aj ((aj ((aj ((aj (x3.1+1))+1))+1))+1))+1))+1))+1))+1)) e50.When.Parts) e50.Within e50.Repair)) hrw51) d7 0 rfl)) ?_
  try rw[←fz hrw51 (f:=ai) (xs:=rw42)]
  refine cq 11 [1,81,82] [I (aj ((aj ((aj ((aj ((aj ((aj ((aj ((aj ((aj (x3.1+1))+1))+1))+1))+1))+1))+1))+1))+1)),.hs 1 0 [] 12 0 (rw51.map ai).length,I x3.2.1] 1490 ?_
  obtain⟨e60,he60,h⟩:=bS h
  refine oq 1506 (.hp 1 0 [] 12 (0+Int.toNat x3.2.1) 0) rfl (ao rfl rfl rfl (dJ (f:=ai) (xs:=rw51) rfl rfl rfl he60)) ?_
  refine cq 2 [85] [.hp 1 0 [] 12 (0+Int.toNat x3.2.1) 9] 1538 ?_
  refine oq 1554 (.hs 1 0 [((0+Int.toNat x3.2.1),9)] 4 0 (e60.When.Parts.map ae).length) rfl (cF rfl (iR (path:=[]) rfl rfl rfl aG (cT (f:=ai) (xs:=rw51) he60) rfl rfl rfl)) ?_
  refine cq 1 [87] [I (aj ((aj ((aj ((aj ((aj ((aj ((aj ((aj ((aj (x3.1+1))+1))+1))+1))+1))+1))+1))+1))+1))] 1570 ?_
  obtain⟨r61,hr61,h⟩:=bS h
  obtain⟨g62,h⟩:=gG h
  obtain⟨rw63,hrw63,h⟩:=lJ h
  refine oq 1586 (I r61.1) rfl (aW rfl rfl (bv rfl rfl rfl (fq (fb rfl (dH (path:=[((0+Int.toNat x3.2.1),9)]) rfl rfl (ii (cT (f:=ai) (xs:=rw51) he60) rfl aG) rfl)) (bm (bK rfl) cy)) (VM hr61) (.inr rfl) (fU rfl rfl rfl (M6 (ii (cT (f:=ai) (xs:=rw51) he60) rfl aG) (kj (f:=ae) (xs:=e60.When.Parts) (ys:=r61.2) g62).symm (NG (cT (f:=ai) (xs:=rw51) he60) rfl d7 (rfl:(_:V)=.agg [str e60.Id,I e60.Kind,I e60.Party,str e60.Action,I e60.Other,I e60.Amount,I e60.When.Op,str e60.When.Name,I e60.When.Day,.usl 4 (r61.2.map ae),I e60.Within,str e60.Repair]) (iC (f:=ai) (xs:=rw51) (y:=(Clause.mk e60.Id e60.Kind e60.Party e60.Action e60.Other e60.Amount (Condition.mk e60.When.Op e60.When.Name e60.When.Day r61.2) e60.Within e60.Repair)) hrw63))) cI) rfl rfl rfl)) ?_
  try rw[kj (f:=ae) (xs:=e60.When.Parts) (ys:=r61.2) g62]
  try rw[←fz hrw63 (f:=ai) (xs:=rw51)]
  refine cq 7 [1,89,90,91] [I r61.1,.hs 1 0 [] 12 0 (rw63.map ai).length,I x3.2.1,I r61.1] 1650 ?_
  obtain⟨e73,he73,h⟩:=bS h
  refine oq 1666 (.hp 1 0 [] 12 (0+Int.toNat x3.2.1) 0) rfl (ao rfl rfl rfl (dJ (f:=ai) (xs:=rw63) rfl rfl rfl he73)) ?_
  refine cq 1 [93] [.hp 1 0 [] 12 (0+Int.toNat x3.2.1) 10] 1682 ?_
  obtain⟨rw74,hrw74,h⟩:=lJ h
  refine o0 1698 rfl rfl (fw rfl rfl (eq (path:=[]) (pl:=true) (e':=.agg [str e73.Id,I e73.Kind,I e73.Party,str e73.Action,I e73.Other,I e73.Amount,I e73.When.Op,str e73.When.Name,I e73.When.Day,.usl 4 (e73.When.Parts.map ae),I r61.1,str e73.Repair]) (es2':=(rw74).map ai) rfl (bq rfl) rfl rfl rfl aG (cT (f:=ai) (xs:=rw63) he73) rfl rfl rfl (iC (f:=ai) (xs:=rw63) (y:=(Clause.mk e73.Id e73.Kind e73.Party e73.Action e73.Other e73.Amount e73.When r61.1 e73.Repair)) hrw74) d7 1 rfl)) ?_
  try rw[←fz hrw74 (f:=ai) (xs:=rw63)]
  refine cq 12 [1,96,97,98] [I (aj (r61.1+1)),.hs 1 0 [] 12 0 (rw74.map ai).length,I x3.2.1,I (aj (r61.1+1))] 1794 ?_
  obtain⟨r85,hr85,h⟩:=bS h
  refine oq 1810 (str r85) rfl (cP (sw hr85)) ?_
  obtain⟨e86,he86,h⟩:=bS h
  refine oq 1826 (.hp 1 0 [] 12 (0+Int.toNat x3.2.1) 0) rfl (ao rfl rfl rfl (dJ (f:=ai) (xs:=rw74) rfl rfl rfl he86)) ?_
  refine cq 1 [101] [.hp 1 0 [] 12 (0+Int.toNat x3.2.1) 11] 1842 ?_
  obtain⟨rw87,hrw87,h⟩:=lJ h
  refine o0 1858 rfl rfl (fw rfl rfl (eq (path:=[]) (pl:=true) (e':=.agg [str e86.Id,I e86.Kind,I e86.Party,str e86.Action,I e86.Other,I e86.Amount,I e86.When.Op,str e86.When.Name,I e86.When.Day,.usl 4 (e86.When.Parts.map ae),I e86.Within,str r85]) (es2':=(rw87).map ai) rfl (bq rfl) rfl rfl rfl aG (cT (f:=ai) (xs:=rw74) he86) rfl rfl rfl (iC (f:=ai) (xs:=rw74) (y:=(Clause.mk e86.Id e86.Kind e86.Party e86.Action e86.Other e86.Amount e86.When e86.Within r85)) hrw87) d7 1 rfl)) ?_
  try rw[←fz hrw87 (f:=ai) (xs:=rw74)]
  refine cq 12 [1,5] [I (aj ((aj (r61.1+1))+1)),I (aj (x3.2.1+1))] 1954 ?_
  refine cZ ?_
  exact rf [0,1,5] [1] (ih _ _ h hr hn :)
 ·refine aq 1 ?_
  exact rf [1] [1] (hn _ (ap h) :) (hk:=hK)
theorem Rl (a_7:List Clause)(k_8:Int)(r:Int×(List Clause))(h:zl a_7 k_8=some r):bT H2 Tryz.f41 [true,false] 1 (Bo (a_7,k_8)) (Bp r):=by
 show Run _ _ (N6 (a_7,k_8) r) [.code N7] _
 refine rI 105 [(0,.hs 1 0 [] 12 0 (a_7.map ai).length),(1,I k_8)] [(1,some ⟨0,12,a_7.map ai⟩)] 2 ?_
 unfold zl at h
 refine cq 10 [5] [I (0)] 34 ?_
 obtain⟨y99,hy99,hy991,hy992⟩:=bJ h
 refine bZ rfl ?_
 refine rf [0,1,5] [1] (Ks a_7 k_8 rfl (k_8,0,a_7) _ hy99 (fun r' e st hq=>by rw[hy991 r' e] at hq;exact hq) fun u99 hu=>?_)
 replace h:=hy992 u99 hu
 refine cq 5 [4] [I u99.1] 34 ?_
 obtain⟨g100,h⟩:=gG h
 obtain rfl:=sI h
 exact bR rfl ⟨_,fin (vs:=[I u99.1]) rfl (ec (bq rfl) dZ) rfl (kr rfl (Em (f:=ai) (xs:=u99.2) (by simpa using g100) rfl) (ed eH)),Ns eE⟩
theorem N8 {G:cO}:cM G 41 zm:=gT 2 1 (aU vc (aU Ob bX)) cY Tryz.func41 (fun a r h=>Rl a.1 a.2 r h)
def Bs:(Contract×Int)→List V:=cA px (oA I)
def Bt (r:Int):V×List V:=(I r,[.dead])
noncomputable def zp :=bC [true,false] Bs Bt fun x=>zo x.1 x.2
theorem VN {a_7:Contract}{k_8:Int}{r}(h:zo a_7 k_8=some r):zp.F (Bs (a_7,k_8))=some (Bt r):=aQ (bB xG (aR cu)) h
noncomputable def VP :=aK Tryz.f12
noncomputable def Oc :=cX [(40,zu),(41,zm)]
def VO (x:Contract×Int)(r:Int):St→Prop:=QF Oc Tryz.f12 [true,false] (Bs x) (Bt r)
theorem Ro (a_7:Contract)(k_8:Int)(r:Int)(h:zo a_7 k_8=some r):bT Oc Tryz.f12 [true,false] 2 (Bs (a_7,k_8)) (Bt r):=by
 show Run _ _ (VO (a_7,k_8) r) [.code VP] _
 refine rI 14 [(0,.agg [.hs 1 0 [] 1 0 (a_7.Parties.map str).length,.hs 2 0 [] 12 0 (a_7.Clauses.map ai).length]),(1,I k_8)] [(1,some ⟨0,1,a_7.Parties.map str⟩),(2,some ⟨0,12,a_7.Clauses.map ai⟩)] 3 ?_
 unfold zo at h
 refine aq 2 ?_
 refine oq 19 (.hp 3 0 [] 2 0 0) rfl (W4 rfl (qz (dj (dt rfl rfl) (dj (dt rfl rfl) qA))) rfl) ?_
 refine cq 7 [6,7] [.hs 3 0 [(0,0)] 1 0 (a_7.Parties.map str).length,I k_8] 83 ?_
 obtain⟨r3,hr3,h⟩:=bS h
 obtain⟨g4,h⟩:=gG h
 refine oq 99 (I r3.1) rfl (aW rfl rfl (bv rfl rfl rfl (fq (fb rfl (dH (path:=[(0,0)]) rfl rfl (ii rfl rfl aG) rfl)) (bm (bK rfl) cy)) (VR hr3) (.inr rfl) (fU rfl rfl rfl (M6 (ii rfl rfl aG) (kj (f:=str) (xs:=a_7.Parties) (ys:=r3.2) g4).symm (NG rfl rfl d7 (rfl:(_:V)=.agg [.usl 1 (r3.2.map str),.usl 12 (a_7.Clauses.map ai)]) rfl)) cI) rfl rfl rfl)) ?_
 try rw[kj (f:=str) (xs:=a_7.Parties) (ys:=r3.2) g4]
 refine ck 7 [10,11] [1] [] [] [.hs 3 1 [(0,1)] 12 0 (a_7.Clauses.map ai).length,I r3.1] [] 163 (by kernel_rfl) ?_
 obtain⟨r5,hr5,h⟩:=bS h
 obtain⟨g6,h⟩:=gG h
 refine oq 179 (I r5.1) rfl (aW rfl rfl (bv rfl rfl rfl (fq (fb rfl (dH (path:=[(0,1)]) rfl rfl (ii rfl rfl aG) rfl)) (bm (bK rfl) cy)) (VL hr5) (.inr rfl) (fU rfl rfl rfl (M6 (ii rfl rfl aG) (kj (f:=ai) (xs:=a_7.Clauses) (ys:=r5.2) g6).symm (NG rfl rfl d7 (rfl:(_:V)=.agg [.usl 1 (r3.2.map str),.usl 12 (r5.2.map ai)]) rfl)) cI) rfl rfl rfl)) ?_
 try rw[kj (f:=ai) (xs:=a_7.Clauses) (ys:=r5.2) g6]
 refine cq 7 [4] [I r5.1] 227 ?_
 obtain rfl:=sI h
 exact bR rfl ⟨_,fin (vs:=[I r5.1]) rfl (ec (bq rfl) dZ) rfl (Yw (mc (jb rfl) (mc (jb rfl) mn)) (ed eH)),mq eE⟩
theorem Od {G:cO}:cM G 12 zp:=gT 2 2 (aU Oi (aU N8 bX)) cY Tryz.func12 (fun a r h=>Ro a.1 a.2 r h)
def Bu:((List ArrInt2)×Int)→List V:=cA (pG 2 ah) (oA I)
def Bw (r:Int×(List ArrInt2)):V×List V:=(I r.1,[.usl 2 (r.2.map ah)])
noncomputable def zr :=bC [true,false] Bu Bw fun x=>zq x.1 x.2
theorem VQ {a_8:List ArrInt2}{k_9:Int}{r}(h:zq a_8 k_9=some r):zr.F (Bu (a_8,k_9))=some (Bw r):=aQ (bB (fZ gQ) (aR cu)) h
noncomputable def H5 :=aK Tryz.f13
noncomputable abbrev Ul :=cL (cL (cR (cL (cL (cR (cL (cL (cR (cL (cR H5))))))))))
noncomputable def Bv :=cX []
def H4 (x:(List ArrInt2)×Int)(r:Int×(List ArrInt2)):St→Prop:=QF Bv Tryz.f13 [true,false] (Bu x) (Bw r)
theorem Kv (a_8:List ArrInt2)(k_9:Int)(x3:Int×Int×(List ArrInt2)):cD Bv 1 (H4 (a_8,k_9)) Ul 2 (su a_8 k_9 x3) (fun u=>(sT 26 [(0,.hs 1 0 [] 2 0 (u.2.map ah).length),(1,I u.1),(5,I x3.2.1)] [⟨0,2,u.2.map ah⟩] 2)) fun x4=>(sT 26 [(0,.hs 1 0 [] 2 0 (x4.2.2.map ah).length),(1,I x4.1),(5,I x3.2.1),(6,I x4.2.1)] [⟨0,2,x4.2.2.map ah⟩] 2):=ey (xQ a_8 k_9 x3) fun {Q K} hK self ih x4 y h hr hn=>by
 unfold jF at h
 refine cq 6 [14] [B (decide (x4.2.1<2))] 34 ?_
 refine sq h ?_ ?_<;>intro h
 ·refine aq 1 ?_
  refine cq 8 [17,18,19,20] [.hs 1 0 [] 2 0 (x4.2.2.map ah).length,I x3.2.1,I x4.2.1,I x4.1] 98 ?_
  obtain⟨e5,he5,h⟩:=bS h
  refine oq 114 (.hp 1 0 [] 2 (0+Int.toNat x3.2.1) 0) rfl (ao rfl rfl rfl (dJ (f:=ah) (xs:=x4.2.2) rfl rfl rfl he5)) ?_
  refine aX h (fun e h=>?_) (fun h=>?_)
  ·refine yU 19 e ?_
   refine oq 130 (.hp 1 0 [] 2 (0+Int.toNat x3.2.1) 0) rfl (ao rfl rfl rfl rfl) ?_
   refine o0 146 rfl rfl (fw rfl rfl (eq (path:=[]) (pl:=true) (e':=.agg [I x4.1,I e5.E1]) (es2':=(cS x4.2.2 x3.2.1 (ArrInt2.mk x4.1 e5.E1)).map ah) rfl (bq rfl) rfl rfl rfl aG (cT (f:=ah) (xs:=x4.2.2) he5) rfl rfl rfl (jz (f:=ah) (xs:=x4.2.2) (y:=(ArrInt2.mk x4.1 e5.E1))) d7 0 rfl)) ?_
   try rw[←gZ (f:=ah) (xs:=x4.2.2) (i:=x3.2.1) (z:=(ArrInt2.mk x4.1 e5.E1))]
   refine cq 12 [1,6] [I (aj (x4.1+1)),I (aj (x4.2.1+1))] 242 ?_
   refine cZ ?_
   exact rf [0,1,5,6] [1] (ih _ _ h hr hn :)
  ·refine aX h (fun e h=>?_) (fun h=>?_)
   ·refine yU 19 e ?_
    refine oq 130 (.hp 1 0 [] 2 (0+Int.toNat x3.2.1) 1) rfl (ao rfl rfl rfl rfl) ?_
    refine o0 146 rfl rfl (fw rfl rfl (eq (path:=[]) (pl:=true) (e':=.agg [I e5.E0,I x4.1]) (es2':=(cS x4.2.2 x3.2.1 (ArrInt2.mk e5.E0 x4.1)).map ah) rfl (bq rfl) rfl rfl rfl aG (cT (f:=ah) (xs:=x4.2.2) he5) rfl rfl rfl (jz (f:=ah) (xs:=x4.2.2) (y:=(ArrInt2.mk e5.E0 x4.1))) d7 0 rfl)) ?_
    try rw[←gZ (f:=ah) (xs:=x4.2.2) (i:=x3.2.1) (z:=(ArrInt2.mk e5.E0 x4.1))]
    refine cq 12 [1,6] [I (aj (x4.1+1)),I (aj (x4.2.1+1))] 242 ?_
    refine cZ ?_
    exact rf [0,1,5,6] [1] (ih _ _ h hr hn :)
   ·cases h
 ·refine aq 1 ?_
  exact rf [0,1,5] [1] (hn _ (ap h) :) (hk:=hK)
theorem Ku (a_8:List ArrInt2)(k_9:Int):cD Bv 1 (H4 (a_8,k_9)) (cL (cL (cR (cL (cR H5))))) 0 (ss a_8 k_9) (fun u=>(sT 26 [(1,I u.1)] [⟨0,2,u.2.map ah⟩] 2)) fun x3=>(sT 26 [(0,.hs 1 0 [] 2 0 (x3.2.2.map ah).length),(1,I x3.1),(5,I x3.2.1)] [⟨0,2,x3.2.2.map ah⟩] 2):=ey (xP a_8 k_9) fun {Q K} hK self ih x3 y h hr hn=>by
 unfold kB at h
 refine cq 5 [7,8] [I x3.2.1,.hs 1 0 [] 2 0 (x3.2.2.map ah).length] 34 ?_
 refine oq 50 (I (len x3.2.2)) rfl (bG rfl rfl rfl (gS (f:=ah) (xs:=x3.2.2) rfl rfl)) ?_
 refine cq 2 [10] [B (decide (x3.2.1<(len x3.2.2)))] 66 ?_
 refine sq h ?_ ?_<;>intro h
 ·refine aq 1 ?_
  refine cq 7 [6] [I (0)] 82 ?_
  obtain⟨y6,hy6,hy61,hy62⟩:=bL h
  refine bZ rfl ?_
  refine rf [0,1,5,6] [1] (Kv a_8 k_9 x3 rfl (x3.1,0,x3.2.2) _ hy6 (fun r' e st hq=>hr r' (hy61 r' e) st hq) fun u6 hu=>?_)
  replace h:=hy62 u6 hu
  refine cq 6 [5] [I (aj (x3.2.1+1))] 50 ?_
  refine cZ ?_
  exact rf [0,1,5] [1] (ih _ _ h hr hn :)
 ·refine aq 1 ?_
  exact rf [1] [1] (hn _ (ap h) :) (hk:=hK)
theorem Rp (a_8:List ArrInt2)(k_9:Int)(r:Int×(List ArrInt2))(h:zq a_8 k_9=some r):bT Bv Tryz.f13 [true,false] 1 (Bu (a_8,k_9)) (Bw r):=by
 show Run _ _ (H4 (a_8,k_9) r) [.code H5] _
 refine rI 26 [(0,.hs 1 0 [] 2 0 (a_8.map ah).length),(1,I k_9)] [(1,some ⟨0,2,a_8.map ah⟩)] 2 ?_
 unfold zq at h
 refine cq 10 [5] [I (0)] 34 ?_
 obtain⟨y7,hy7,hy71,hy72⟩:=bJ h
 refine bZ rfl ?_
 refine rf [0,1,5] [1] (Ku a_8 k_9 rfl (k_9,0,a_8) _ hy7 (fun r' e st hq=>by rw[hy71 r' e] at hq;exact hq) fun u7 hu=>?_)
 replace h:=hy72 u7 hu
 refine cq 5 [4] [I u7.1] 34 ?_
 obtain⟨g8,h⟩:=gG h
 obtain rfl:=sI h
 exact bR rfl ⟨_,fin (vs:=[I u7.1]) rfl (ec (bq rfl) dZ) rfl (kr rfl (Em (f:=ah) (xs:=u7.2) (by simpa using g8) rfl) (ed eH)),Ns eE⟩
theorem Oe {G:cO}:cM G 13 zr:=gT 2 1 bX cY Tryz.func13 (fun a r h=>Rp a.1 a.2 r h)
def Bk:((List ArrInt2)×Int)→List V:=cA (ln ah) (oA I)
def Bm (r:Int):V×List V:=(I r,[])
noncomputable def zk :=bC [false,false] Bk Bm fun x=>uY x.1 x.2
theorem N4 {a_1:List ArrInt2}{k_2:Int}{r}(h:uY a_1 k_2=some r):zk.F (Bk (a_1,k_2))=some (Bm r):=aQ (bB (d9 gQ) (aR cu)) h
noncomputable def H1 :=aK Tryz.f14
noncomputable abbrev Uj :=cL (cL (cR (cL (cL (cR (cL (cL (cR (cL (cR H1))))))))))
noncomputable def Bl :=cX []
def H0 (x:(List ArrInt2)×Int)(r:Int):St→Prop:=QF Bl Tryz.f14 [false,false] (Bk x) (Bm r)
theorem Kr (a_1:List ArrInt2)(k_2:Int)(x3:Int×Int):cD Bl 0 (H0 (a_1,k_2)) Uj 2 (sn a_1 k_2 x3) (fun u=>(sT 28 [(0,.isl false (a_1.map ah)),(1,I u),(5,I x3.2)] [] 1)) fun x4=>(sT 28 [(0,.isl false (a_1.map ah)),(1,I x4.1),(5,I x3.2),(6,I x4.2)] [] 1):=ey (xM a_1 k_2 x3) fun {Q K} hK self ih x4 y h hr hn=>by
 unfold jD at h
 refine cq 6 [14] [B (decide (x4.2<2))] 33 ?_
 refine sq h ?_ ?_<;>intro h
 ·refine aq 1 ?_
  refine cq 8 [17,18,19] [.isl false (a_1.map ah),I x3.2,I x4.2] 81 ?_
  obtain⟨e5,he5,h⟩:=bS h
  refine oq 97 (.iptr (ah e5) 0) rfl (ao rfl rfl rfl (bH rfl rfl rfl rfl he5)) ?_
  refine aX h (fun e h=>?_) (fun h=>?_)
  ·refine yU 19 e ?_
   refine cq 5 [24] [B (e5.E0 != x4.1)] 161 ?_
   refine sq h ?_ ?_<;>intro h
   ·refine cq 4 [4] [I (-1)] 177 ?_
    exact bR rfl (hr _ (ap h) _ (qp [I (-1)]))
   ·refine aq 1 ?_
    refine cq 11 [1,6] [I (aj (x4.1+1)),I (aj (x4.2+1))] 257 ?_
    refine cZ ?_
    exact rf [0,1,5,6] [] (ih _ _ h hr hn :)
  ·refine aX h (fun e h=>?_) (fun h=>?_)
   ·refine yU 19 e ?_
    refine cq 5 [24] [B (e5.E1 != x4.1)] 161 ?_
    refine sq h ?_ ?_<;>intro h
    ·refine cq 4 [4] [I (-1)] 177 ?_
     exact bR rfl (hr _ (ap h) _ (qp [I (-1)]))
    ·refine aq 1 ?_
     refine cq 11 [1,6] [I (aj (x4.1+1)),I (aj (x4.2+1))] 257 ?_
     refine cZ ?_
     exact rf [0,1,5,6] [] (ih _ _ h hr hn :)
   ·cases h
 ·refine aq 1 ?_
  exact rf [0,1,5] [] (hn _ (ap h) :) (hk:=hK)
theorem Kq (a_1:List ArrInt2)(k_2:Int):cD Bl 0 (H0 (a_1,k_2)) (cL (cL (cR (cL (cR H1))))) 0 (sk a_1 k_2) (fun u=>(sT 28 [(1,I u)] [] 1)) fun x3=>(sT 28 [(0,.isl false (a_1.map ah)),(1,I x3.1),(5,I x3.2)] [] 1):=ey (xL a_1 k_2) fun {Q K} hK self ih x3 y h hr hn=>by
 unfold ky at h
 refine cq 5 [7,8] [I x3.2,.isl false (a_1.map ah)] 33 ?_
 refine oq 49 (I (len a_1)) rfl (bG rfl rfl rfl (cH rfl)) ?_
 refine cq 2 [10] [B (decide (x3.2<(len a_1)))] 65 ?_
 refine sq h ?_ ?_<;>intro h
 ·refine aq 1 ?_
  refine cq 7 [6] [I (0)] 81 ?_
  obtain⟨y6,hy6,hy61,hy62⟩:=bL h
  refine bZ rfl ?_
  refine rf [0,1,5,6] [] (Kr a_1 k_2 x3 rfl (x3.1,0) _ hy6 (fun r' e st hq=>hr r' (hy61 r' e) st hq) fun u6 hu=>?_)
  replace h:=hy62 u6 hu
  refine cq 6 [5] [I (aj (x3.2+1))] 49 ?_
  refine cZ ?_
  exact rf [0,1,5] [] (ih _ _ h hr hn :)
 ·refine aq 1 ?_
  exact rf [1] [] (hn _ (ap h) :) (hk:=hK)
theorem Rk (a_1:List ArrInt2)(k_2:Int)(r:Int)(h:uY a_1 k_2=some r):bT Bl Tryz.f14 [false,false] 0 (Bk (a_1,k_2)) (Bm r):=by
 show Run _ _ (H0 (a_1,k_2) r) [.code H1] _
 refine rI 28 [(0,.isl false (a_1.map ah)),(1,I k_2)] [] 1 ?_
 unfold uY at h
 refine cq 10 [5] [I (0)] 33 ?_
 obtain⟨y7,hy7,hy71,hy72⟩:=bJ h
 refine bZ rfl ?_
 refine rf [0,1,5] [] (Kq a_1 k_2 rfl (k_2,0) _ hy7 (fun r' e st hq=>by rw[hy71 r' e] at hq;exact hq) fun u7 hu=>?_)
 replace h:=hy72 u7 hu
 refine cq 5 [4] [I u7] 33 ?_
 obtain rfl:=sI h
 exact rP [I u7]
theorem N5 {G:cO}:cM G 14 zk:=gT 2 0 bX cY Tryz.func14 (fun a r h=>Rk a.1 a.2 r h)
def eU:Contract→List V:=oA aO
def eV (r:Bool):V×List V:=(B r,[])
noncomputable def fO :=bC [false] eU eV fun x=>eb x
theorem nT {gc:Contract}{r}(h:eb gc=some r):fO.F (eU gc)=some (eV r):=aQ (aR bN) h
noncomputable def dX :=aK Tryz.f3
noncomputable abbrev eS :=cR (cR (cR (cR (cR (cR (cR (cR (cR (cR (cR (cR dX)))))))))))
noncomputable abbrev iQ :=cR (cL (cR (cR (cR (cR (cR (cR (cR (cR (cR (cR (cR dX))))))))))))
noncomputable def dW :=cX [(6,zD),(8,zM),(7,zU),(9,EL),(10,zh),(11,zf),(12,zp),(13,zr),(14,zk)]
def dC (x:Contract)(r:Bool):St→Prop:=QF dW Tryz.f3 [false] (eU x) (eV r)
theorem na (gc:Contract)(r:Bool)(h:eb gc=some r):bT dW Tryz.f3 [false] 0 (eU gc) (eV r):=by
 show Run _ _ (dC gc r) [.code dX] _
 refine rI 96 [(0,aO gc)] [] 1 ?_
 unfold eb at h
 refine ck 13 [1,14,15] [] [1] [] [.hp 1 0 [] 2 0 0,aO gc,I (1048576)] [some ⟨0,2,[aO gc]⟩] 81 (by kernel_rfl) ?_
 obtain⟨r2,hr2,h⟩:=bS h
 refine oq 97 (I r2) rfl (cP (V0 hr2)) ?_
 refine cq 8 [18] [B (decide (r2<0))] 145 ?_
 refine sq h ?_ ?_<;>intro h
 ·refine cq 4 [2] [B true] 161 ?_
  obtain rfl:=sI h
  exact rP [B true]
 ·refine aq 1 ?_
  refine cq 3 [20] [aO gc] 161 ?_
  obtain⟨r3,hr3,h⟩:=bS h
  refine oq 177 (.agg [.hs 161 0 [] 1 0 (r3.Parties.map str).length,.hs 162 0 [] 12 0 (r3.Clauses.map ai).length]) rfl (cP (vl hr3)) ?_
  obtain⟨r4,hr4,h⟩:=bS h
  refine oq 193 (.tup [.hs 177 0 [] 2 0 (r4.1.map ah).length,B r4.2]) rfl (aW rfl rfl (bv rfl rfl rfl (bm (EE (lj (eT (f:=str) (g:=str) (xs:=r3.Parties) rfl rfl (dE gC)) (lj (eT (f:=ai) (g:=ar) (xs:=r3.Clauses) rfl rfl (dE fX)) yW))) cy) (Wm hr4) (.inl (by simp[cr,di,str,oB (f:=ah) mm])) cI rfl rfl rfl)) ?_
  refine cq 9 [4,5,25] [.hs 177 0 [] 2 0 (r4.1.map ah).length,B r4.2,aO gc] 289 ?_
  obtain⟨r5,hr5,h⟩:=bS h
  refine oq 305 (.agg [.hs 289 0 [] 1 0 (r5.Parties.map str).length,.hs 290 0 [] 12 0 (r5.Clauses.map ai).length]) rfl (cP (vl hr5)) ?_
  refine ck 1 [6] [] [305] [] [.hp 305 0 [] 2 0 0] [some ⟨0,2,[.agg [.isl true [],.isl true []]]⟩] 321 (by kernel_rfl) ?_
  refine fK 305 [.agg [.usl 1 (([]).map str),.usl 12 (([]).map ai)]] rfl rfl (aD (gI (aD (.nil _) (aD (.nil _) eD))) eD) ?_
  refine o0 337 rfl rfl (fw rfl rfl (eq (path:=[]) (pl:=false) (e':=jW r5) (es2':=[jW r5]) rfl (qz (dj (dt rfl rfl) (dj (dt rfl rfl) qA))) rfl rfl rfl aG rfl rfl rfl rfl rfl d7 2 rfl)) ?_
  refine cq 4 [28] [.agg [.hs 305 2 [(0,0)] 1 0 (r5.Parties.map str).length,.hs 305 2 [(0,1)] 12 0 (r5.Clauses.map ai).length]] 353 ?_
  obtain⟨r6,hr6,h⟩:=bS h
  refine oq 369 (.tup [.hs 353 0 [] 2 0 (r6.1.map ah).length,B r6.2]) rfl (aW rfl rfl (bv rfl rfl rfl (bm (EE (lj (xw (path:=[(0,0)]) rfl rfl (ii rfl rfl aG) rfl (dE (f:=str) gC)) (lj (xw (path:=[(0,1)]) rfl rfl (ii rfl rfl aG) rfl (dE (f:=ai) fX)) yW))) cy) (TD hr6) (.inl (by simp[cr,di,str,oB (f:=ah) mm])) cI rfl rfl rfl)) ?_
  refine cq 11 [7,8,32,33] [.hs 353 0 [] 2 0 (r6.1.map ah).length,B r6.2,.hs 353 0 [] 2 0 (r6.1.map ah).length,.hs 177 0 [] 2 0 (r4.1.map ah).length] 481 ?_
  obtain⟨r7,hr7,h⟩:=bS h
  refine oq 497 (B r7) rfl (aW rfl rfl (bv rfl rfl rfl (bm (pD rfl rfl (eT (f:=ah) (g:=ah) (xs:=r6.1) rfl rfl (dE fy))) (bm (pD rfl rfl (eT (f:=ah) (g:=ah) (xs:=r4.1) rfl rfl (dE fy))) cy)) (HY hr7) (.inl rfl) cI rfl rfl rfl)) ?_
  refine cq 2 [36] [B (!r7)] 529 ?_
  obtain⟨u8,hu8,h⟩:=lJ h
  have j8:Run dW 0 (dC gc r) (.code (cR (cL (cR (cR (cR (cR (cR (cR (cR dX)))))))))::.code (cR (cR (cR (cR (cR (cR (cR (cR dX))))))))::[]) (sT 96 [(1,.hp 1 0 [] 2 0 0),(4,.hs 2 0 [] 2 0 (r4.1.map ah).length),(5,B r4.2),(6,.hp 3 0 [] 2 0 0),(7,.hs 4 0 [] 2 0 (r6.1.map ah).length),(8,B r6.2),(40,B u8)] [⟨0,2,[aO gc]⟩,⟨0,2,r4.1.map ah⟩,⟨0,2,[jW r5]⟩,⟨0,2,r6.1.map ah⟩] 5):=by
   refine sq h ?_ ?_<;>intro h
   ·refine cq 4 [2] [B false] 21 ?_
    obtain rfl:=sI h
    exact rP [B false]
   ·refine aq 1 ?_
    refine aq 2 ?_
    refine fa [0,0,2,7,15] rfl (by decide +kernel) ?_
    refine dq [3] [] (.agg [.hs 3 0 [(0,0)] 1 0 (r5.Parties.map str).length,.hs 3 0 [(0,1)] 12 0 (r5.Clauses.map ai).length]) rfl (cF rfl rfl) ?_
    refine dq [1] [] (aO gc) rfl (cF rfl rfl) ?_
    obtain⟨r9,hr9,h⟩:=bS h
    refine dq [] [] (.agg [.hs 37 0 [] 1 0 (r9.Parties.map str).length,.hs 38 0 [] 12 0 (r9.Clauses.map ai).length]) rfl (cP (vl hr9)) ?_ (dY rfl rfl rfl rfl (bm (bK rfl) cy) (vl hr9) (.inr rfl) rfl)
    obtain⟨r10,hr10,h⟩:=bS h
    refine dq [3,3,37,38] [] (B r10) rfl (aW rfl rfl (bv rfl rfl rfl (bm (EE (lj (xw (path:=[(0,0)]) rfl rfl (ii rfl rfl aG) rfl (dE (f:=str) gC)) (lj (xw (path:=[(0,1)]) rfl rfl (ii rfl rfl aG) rfl (dE (f:=ai) fX)) yW))) (bm (EE (lj (eT (f:=str) (g:=str) (xs:=r9.Parties) rfl rfl (dE gC)) (lj (eT (f:=ai) (g:=ar) (xs:=r9.Clauses) rfl rfl (dE fX)) yW))) cy)) (NS hr10) (.inl rfl) cI rfl rfl rfl)) ?_ (dY rfl rfl rfl rfl (bm (EE (lj (xw (path:=[(0,0)]) rfl rfl (ii rfl rfl aG) rfl (dE (f:=str) gC)) (lj (xw (path:=[(0,1)]) rfl rfl (ii rfl rfl aG) rfl (dE (f:=ai) fX)) yW))) (bm (EE (lj (eT (f:=str) (g:=str) (xs:=r9.Parties) rfl rfl (dE gC)) (lj (eT (f:=ai) (g:=ar) (xs:=r9.Clauses) rfl rfl (dE fX)) yW))) cy)) (NS hr10) (.inl rfl) rfl)
    refine dk 1 [45] [B (!r10)] ?_
    refine de 85 rfl rfl ?_
    refine sq h ?_ ?_<;>intro h
    ·refine cq 4 [2] [B false] 101 ?_
     obtain rfl:=sI h
     exact rP [B false]
    ·refine aq 1 ?_
     refine cq 8 [46,47] [.agg [.hs 3 0 [(0,0)] 1 0 (r5.Parties.map str).length,.hs 3 0 [(0,1)] 12 0 (r5.Clauses.map ai).length],I (1)] 133 ?_
     obtain⟨r11,hr11,h⟩:=bS h
     refine J8 46 0 (path:=[(0,0)]) (.agg [.hs 133 0 [] 1 0 (r5.Parties.map str).length,.hs 3 0 [(0,1)] 12 0 (r5.Clauses.map ai).length]) 149 rfl rfl rfl rfl rfl (ii rfl rfl aG) (sd (path:=[]) (i:=0) (k:=0) (e':=.agg [.dead,.usl 12 (r5.Clauses.map ai)]) (es2':=[.agg [.dead,.usl 12 (r5.Clauses.map ai)]]) aG rfl rfl rfl d7) rfl rfl ?_
     refine J8 46 1 (path:=[(0,1)]) (.agg [.hs 133 0 [] 1 0 (r5.Parties.map str).length,.hs 149 0 [] 12 0 (r5.Clauses.map ai).length]) 165 rfl rfl rfl rfl rfl (ii rfl rfl aG) (sd (path:=[]) (i:=0) (k:=1) (e':=.agg [.dead,.dead]) (es2':=[.agg [.dead,.dead]]) aG rfl rfl rfl d7) rfl rfl ?_
     refine oq 181 (I r11) rfl (aW rfl rfl (bv rfl rfl rfl (fq (Yz (Yl (dH (path:=[]) rfl rfl aG rfl) (Yl (dH (path:=[]) rfl rfl aG rfl) YA))) (bm (bK rfl) cy)) (VN hr11) (.inr rfl) (fU rfl rfl rfl eu (Yo rfl rfl rfl cI)) rfl rfl rfl)) ?_
     refine cq 8 [51] [B (decide (r11<0))] 245 ?_
     obtain⟨y12,hy12,hy121,hy122⟩:=bJ h
     have j12:∀u12,y12=.inr u12→Run dW 0 (dC gc r) (.code iQ::.code eS::[]) (sT 96 [(1,.hp 1 0 [] 2 0 0),(4,.hs 2 0 [] 2 0 (r4.1.map ah).length),(5,B r4.2),(7,.hs 3 0 [] 2 0 (r6.1.map ah).length),(61,B u12)] [⟨0,2,[aO gc]⟩,⟨0,2,r4.1.map ah⟩,⟨0,2,r6.1.map ah⟩] 4):=by
      intro u12 hu
      replace h:=hy122 u12 hu
      refine sq h ?_ ?_<;>intro h
      ·refine cq 4 [2] [B false] 20 ?_
       obtain rfl:=sI h
       exact rP [B false]
      ·refine aq 1 ?_
       refine cq 8 [62,63] [.hs 3 0 [] 2 0 (r6.1.map ah).length,I (1)] 52 ?_
       obtain⟨r13,hr13,h⟩:=bS h
       obtain⟨g14,h⟩:=gG h
       refine oq 68 (I r13.1) rfl (aW rfl rfl (bv rfl rfl rfl (fq (fb rfl (dH (path:=[]) rfl rfl aG rfl)) (bm (bK rfl) cy)) (VQ hr13) (.inr rfl) (fU rfl rfl rfl rfl cI) rfl rfl rfl)) ?_
       try rw[kj (f:=ah) (xs:=r6.1) (ys:=r13.2) g14]
       refine cq 10 [10,65,66] [I r13.1,.hs 3 0 [] 2 0 (r13.2.map ah).length,I (1)] 132 ?_
       obtain⟨r15,hr15,h⟩:=bS h
       refine oq 148 (I r15) rfl (aW rfl rfl (bv rfl rfl rfl (bm (pD rfl rfl (eT (f:=ah) (g:=ah) (xs:=r13.2) rfl rfl (dE fy))) (bm (bK rfl) cy)) (N4 hr15) (.inl rfl) cI rfl rfl rfl)) ?_
       refine cq 8 [11,69] [I r15,B (decide (r15<0))] 196 ?_
       refine sq h ?_ ?_<;>intro h
       ·refine cq 4 [2] [B false] 212 ?_
        obtain rfl:=sI h
        exact rP [B false]
       ·refine aq 1 ?_
        refine cq 7 [72] [B (r15 != r13.1)] 244 ?_
        refine sq h ?_ ?_<;>intro h
        ·refine cq 4 [2] [B false] 260 ?_
         obtain rfl:=sI h
         exact rP [B false]
        ·refine aq 1 ?_
         refine cq 3 [74] [aO gc] 260 ?_
         obtain⟨r16,hr16,h⟩:=bS h
         refine oq 276 (.agg [.hs 260 0 [] 1 0 (r16.Parties.map str).length,.hs 261 0 [] 12 0 (r16.Clauses.map ai).length]) rfl (cP (vl hr16)) ?_
         obtain⟨r17,hr17,h⟩:=bS h
         refine oq 292 (.tup [.hs 276 0 [] 2 0 (r17.1.map ah).length,B r17.2]) rfl (aW rfl rfl (bv rfl rfl rfl (bm (EE (lj (eT (f:=str) (g:=str) (xs:=r16.Parties) rfl rfl (dE gC)) (lj (eT (f:=ai) (g:=ar) (xs:=r16.Clauses) rfl rfl (dE fX)) yW))) cy) (TD hr17) (.inl (by simp[cr,di,str,oB (f:=ah) mm])) cI rfl rfl rfl)) ?_
         refine cq 11 [13,79,80] [B r17.2,.hs 276 0 [] 2 0 (r17.1.map ah).length,.hs 2 0 [] 2 0 (r4.1.map ah).length] 404 ?_
         obtain⟨r18,hr18,h⟩:=bS h
         refine oq 420 (B r18) rfl (aW rfl rfl (bv rfl rfl rfl (bm (pD rfl rfl (eT (f:=ah) (g:=ah) (xs:=r17.1) rfl rfl (dE fy))) (bm (pD rfl rfl (eT (f:=ah) (g:=ah) (xs:=r4.1) rfl rfl (dE fy))) cy)) (HY hr18) (.inl rfl) cI rfl rfl rfl)) ?_
         refine cq 2 [83] [B (!r18)] 452 ?_
         obtain⟨u19,hu19,h⟩:=lJ h
         have j19:Run dW 0 (dC gc r) (.code (cR (cL (cR (cR (cR (cR (cR (cR (cR eS)))))))))::.code (cR (cR (cR (cR (cR (cR (cR (cR eS))))))))::[]) (sT 96 [(7,.hs 1 0 [] 2 0 (r13.2.map ah).length),(10,I r13.1),(87,B u19)] [⟨0,2,r13.2.map ah⟩] 2):=by
          refine sq h ?_ ?_<;>intro h
          ·refine cq 4 [2] [B false] 18 ?_
           obtain rfl:=sI h
           exact rP [B false]
          ·refine aq 1 ?_
           refine cq 8 [88,89] [.hs 1 0 [] 2 0 (r13.2.map ah).length,I (1)] 50 ?_
           obtain⟨r20,hr20,h⟩:=bS h
           refine oq 66 (I r20) rfl (aW rfl rfl (bv rfl rfl rfl (bm (pD rfl rfl (eT (f:=ah) (g:=ah) (xs:=r13.2) rfl rfl (dE fy))) (bm (bK rfl) cy)) (N4 hr20) (.inl rfl) cI rfl rfl rfl)) ?_
           refine cq 8 [11,92] [I r20,B (decide (r20<0))] 114 ?_
           refine sq h ?_ ?_<;>intro h
           ·refine cq 4 [2] [B false] 130 ?_
            obtain rfl:=sI h
            exact rP [B false]
           ·refine aq 1 ?_
            refine cq 7 [95] [B (r20 != r13.1)] 162 ?_
            refine sq h ?_ ?_<;>intro h
            ·refine cq 4 [2] [B false] 178 ?_
             obtain rfl:=sI h
             exact rP [B false]
            ·refine aq 1 ?_
             refine cq 4 [2] [B true] 178 ?_
             obtain rfl:=sI h
             exact rP [B true]
         replace h:=hu19
         clear hu19
         refine sp 83 h rfl ?_ ?_<;>intro h
         ·refine cq 5 [87] [B true] 516 ?_
          subst h
          exact rf [7,10,87] [3] (j19 :)
         ·refine cq 5 [87] [B (!(r17.2==r4.2))] 516 ?_
          subst h
          exact rf [7,10,87] [3] (j19 :)
     have r12:∀r',y12=.inl r'→∀st,dC gc r' st→(dC gc r) st:=fun r' e st hq=>by rw[hy121 r' e] at hq;exact hq
     replace h:=hy12
     refine sp 51 h rfl ?_ ?_<;>intro h
     ·refine cq 11 [61] [B true] 405 ?_
      exact rf [1,4,5,7,61] [1,2,4] (j12 _ (ap h) :)
     ·refine cq 2 [52,53] [.hs 4 0 [] 2 0 (r6.1.map ah).length,.hs 2 0 [] 2 0 (r4.1.map ah).length] 277 ?_
      obtain⟨r21,hr21,h⟩:=bS h
      refine oy 293 (B r21) rfl (aW rfl rfl (bv rfl rfl rfl (bm (pD rfl rfl (eT (f:=ah) (g:=ah) (xs:=r6.1) rfl rfl (dE fy))) (bm (pD rfl rfl (eT (f:=ah) (g:=ah) (xs:=r4.1) rfl rfl (dE fy))) cy)) (HY hr21) (.inl rfl) cI rfl rfl rfl)) ?_
      refine cq 3 [57] [B (!r21)] 341 ?_
      obtain⟨u22,hu22,h⟩:=lJ h
      have j22:Run dW 0 (dC gc r) (.code iQ::.code eS::[]) (sT 96 [(1,.hp 1 0 [] 2 0 0),(4,.hs 2 0 [] 2 0 (r4.1.map ah).length),(5,B r4.2),(7,.hs 3 0 [] 2 0 (r6.1.map ah).length),(61,B u22)] [⟨0,2,[aO gc]⟩,⟨0,2,r4.1.map ah⟩,⟨0,2,r6.1.map ah⟩] 4):=by
       exact rf [1,4,5,7,61] [1,2,3] (j12 _ (ap h) :)
      replace h:=hu22
      clear hu22
      refine sp 57 h rfl ?_ ?_<;>intro h
      ·refine cq 5 [61] [B true] 405 ?_
       subst h
       exact rf [1,4,5,7,61] [1,2,4] (j22 :)
      ·refine cq 5 [61] [B (!(r6.2==r4.2))] 405 ?_
       subst h
       exact rf [1,4,5,7,61] [1,2,4] (j22 :)
  replace h:=hu8
  clear hu8
  refine sp 36 h rfl ?_ ?_<;>intro h
  ·refine cq 5 [40] [B true] 593 ?_
   subst h
   exact rf [1,4,5,6,7,8,40] [1,177,305,353] (j8 :)
  ·refine cq 5 [40] [B (!(r6.2==r4.2))] 593 ?_
   subst h
   exact rf [1,4,5,6,7,8,40] [1,177,305,353] (j8 :)
theorem mr {G:cO}:cM G 3 fO:=gT 1 0 (aU OA (aU OS (aU O4 (aU Re (aU N0 (aU NT (aU Od (aU Oe (aU N5 bX))))))))) cY Tryz.func3 (fun a r h=>na a r h)
end Go.Ln
