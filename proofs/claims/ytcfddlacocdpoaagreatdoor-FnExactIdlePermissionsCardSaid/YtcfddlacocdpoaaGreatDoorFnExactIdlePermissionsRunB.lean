/-
  The walks.
-/
import Derived.Test.YtcfddlacocdpoaaGreatDoorFnExactIdlePermissionsRunA
set_option maxHeartbeats 4000000
set_option linter.unusedVariables false
set_option linter.unusedSimpArgs false
set_option maxRecDepth 100000
namespace Go.Ln
open Go Go.Proofs
def AO (r:Bool):V×List V:=(B r,[])
noncomputable def yI :=bx [false,false] AN AO fun x=>ta x.1 x.2
theorem Hw {a_1:List Int}{b_2:List Int}{r}(h:ta a_1 b_2=some r):yI.F (AN (a_1,b_2))=some (AO r):=aP (bp (d6 cf) (aQ (d6 cf))) h
noncomputable def Nm :=aJ Tryz.f16
noncomputable def Hv :=cV []
def Nl (x:(List Int)×(List Int))(r:Bool):St→Prop:=QF Hv Tryz.f16 [false,false] (AN x) (AO r)
theorem JV (a_1:List Int)(b_2:List Int):cJ Hv 0 (Nl (a_1,b_2)) (cL (cL (cR (cL (cR (cR Nm)))))) 0 (rO a_1 b_2) (fun u=>(sT 26 [] [] 1)) fun x3=>(sT 26 [(0,.isl false (a_1.map I)),(1,.isl false (b_2.map I)),(5,I x3)] [] 1):=eF (xj a_1 b_2) fun {Q K} hK self ih x3 y h hr hn=>by
 unfold mh at h
 refine cq 5 [11,12] [I x3,.isl false (a_1.map I)] 33 ?_
 refine oq 49 (I (len a_1)) rfl (bG rfl rfl rfl (cF rfl)) ?_
 refine cq 2 [14] [B (decide (x3<(len a_1)))] 65 ?_
 refine sq h ?_ ?_<;>intro h
 ·refine aq 1 ?_
  refine aq 3 ?_
  refine fp [0,0,3,7,0,0,48,112,255] rfl (by decide +kernel) ?_
  refine dk 2 [18,17] [I x3,.isl false (a_1.map I)] ?_
  obtain⟨e4,he4,h⟩:=bS h
  refine dq [] [] (.iptr (I e4) 0) rfl (an rfl rfl rfl (bC rfl rfl rfl rfl he4)) ?_
  refine dq [] [] (I e4) rfl (cQ rfl rfl) ?_
  refine dk 2 [22,21] [I x3,.isl false (b_2.map I)] ?_
  obtain⟨e5,he5,h⟩:=bS h
  refine dq [] [] (.iptr (I e5) 0) rfl (an rfl rfl rfl (bC rfl rfl rfl rfl he5)) ?_
  refine dq [] [] (I e5) rfl (cQ rfl rfl) ?_
  refine dk 1 [25] [B (e4 != e5)] ?_
  refine de 209 rfl rfl ?_
  refine sq h ?_ ?_<;>intro h
  ·refine cq 4 [4] [B false] 225 ?_
   exact bX rfl (hr _ (ap h) _ (qp [B false]))
  ·refine aq 1 ?_
   refine cq 6 [5] [I (aj (x3+1))] 257 ?_
   refine dF ?_
   exact rf [0,1,5] [] (ih _ _ h hr hn :)
 ·refine aq 1 ?_
  exact rf [] [] (hn _ (ap h) :) (hk:=hK)
theorem QL (a_1:List Int)(b_2:List Int)(r:Bool)(h:ta a_1 b_2=some r):bP Hv Tryz.f16 [false,false] 0 (AN (a_1,b_2)) (AO r):=by
 show Run _ _ (Nl (a_1,b_2) r) [.code Nm] _
 refine rI 26 [(0,.isl false (a_1.map I)),(1,.isl false (b_2.map I))] [] 1 ?_
 unfold ta at h
 refine cq 8 [6] [.isl false (a_1.map I)] 33 ?_
 refine oq 49 (I (len a_1)) rfl (bG rfl rfl rfl (cF rfl)) ?_
 refine cq 1 [8] [.isl false (b_2.map I)] 65 ?_
 refine oq 81 (I (len b_2)) rfl (bG rfl rfl rfl (cF rfl)) ?_
 refine cq 2 [10] [B ((len a_1) != (len b_2))] 97 ?_
 refine sq h ?_ ?_<;>intro h
 ·refine cq 4 [4] [B false] 113 ?_
  obtain rfl:=sI h
  exact rP [B false]
 ·refine aq 1 ?_
  refine cq 6 [5] [I (0)] 113 ?_
  obtain⟨y6,hy6,hy61,hy62⟩:=bJ h
  refine b7 rfl ?_
  refine rf [0,1,5] [] (JV a_1 b_2 rfl 0 _ hy6 (fun r' e st hq=>by rw[hy61 r' e] at hq;exact hq) fun u6 hu=>?_)
  replace h:=hy62 u6 hu
  refine cq 4 [4] [B true] 17 ?_
  obtain rfl:=sI h
  exact rP [B true]
theorem Nn {G:cM}:cH G 16 yI:=gT 2 0 bU cW Tryz.func16 (fun a r h=>QL a.1 a.2 r h)
def AP:((List ac)×(List ac))→List V:=cA (lc str) (oA (lc str))
def AQ (r:Bool):V×List V:=(B r,[])
noncomputable def yK :=bx [false,false] AP AQ fun x=>yJ x.1 x.2
theorem Vj {a_1:List ac}{b_2:List ac}{r}(h:yJ a_1 b_2=some r):yK.F (AP (a_1,b_2))=some (AQ r):=aP (bp (d6 bH) (aQ (d6 bH))) h
noncomputable def Np :=aJ Tryz.f49
noncomputable def Hx :=cV []
def No (x:(List ac)×(List ac))(r:Bool):St→Prop:=QF Hx Tryz.f49 [false,false] (AP x) (AQ r)
theorem JW (a_1:List ac)(b_2:List ac):cJ Hx 0 (No (a_1,b_2)) (cL (cL (cR (cL (cR (cR Np)))))) 0 (rQ a_1 b_2) (fun u=>(sT 26 [] [] 1)) fun x3=>(sT 26 [(0,.isl false (a_1.map str)),(1,.isl false (b_2.map str)),(5,I x3)] [] 1):=eF (xk a_1 b_2) fun {Q K} hK self ih x3 y h hr hn=>by
 unfold mi at h
 refine cq 5 [11,12] [I x3,.isl false (a_1.map str)] 33 ?_
 refine oq 49 (I (len a_1)) rfl (bG rfl rfl rfl (cF rfl)) ?_
 refine cq 2 [14] [B (decide (x3<(len a_1)))] 65 ?_
 refine sq h ?_ ?_<;>intro h
 ·refine aq 1 ?_
  refine aq 3 ?_
  refine fp [0,0,3,7,0,0,48,112,255] rfl (by decide +kernel) ?_
  refine dk 2 [18,17] [I x3,.isl false (a_1.map str)] ?_
  obtain⟨e4,he4,h⟩:=bS h
  refine dq [] [] (.iptr (str e4) 0) rfl (an rfl rfl rfl (bC rfl rfl rfl rfl he4)) ?_
  refine dq [] [] (str e4) rfl (cQ rfl rfl) ?_
  refine dk 2 [22,21] [I x3,.isl false (b_2.map str)] ?_
  obtain⟨e5,he5,h⟩:=bS h
  refine dq [] [] (.iptr (str e5) 0) rfl (an rfl rfl rfl (bC rfl rfl rfl rfl he5)) ?_
  refine dq [] [] (str e5) rfl (cQ rfl rfl) ?_
  refine dk 1 [25] [B (!(e4==e5))] ?_
  refine de 209 rfl rfl ?_
  refine sq h ?_ ?_<;>intro h
  ·refine cq 4 [4] [B false] 225 ?_
   exact bX rfl (hr _ (ap h) _ (qp [B false]))
  ·refine aq 1 ?_
   refine cq 6 [5] [I (aj (x3+1))] 257 ?_
   refine dF ?_
   exact rf [0,1,5] [] (ih _ _ h hr hn :)
 ·refine aq 1 ?_
  exact rf [] [] (hn _ (ap h) :) (hk:=hK)
theorem QM (a_1:List ac)(b_2:List ac)(r:Bool)(h:yJ a_1 b_2=some r):bP Hx Tryz.f49 [false,false] 0 (AP (a_1,b_2)) (AQ r):=by
 show Run _ _ (No (a_1,b_2) r) [.code Np] _
 refine rI 26 [(0,.isl false (a_1.map str)),(1,.isl false (b_2.map str))] [] 1 ?_
 unfold yJ at h
 refine cq 8 [6] [.isl false (a_1.map str)] 33 ?_
 refine oq 49 (I (len a_1)) rfl (bG rfl rfl rfl (cF rfl)) ?_
 refine cq 1 [8] [.isl false (b_2.map str)] 65 ?_
 refine oq 81 (I (len b_2)) rfl (bG rfl rfl rfl (cF rfl)) ?_
 refine cq 2 [10] [B ((len a_1) != (len b_2))] 97 ?_
 refine sq h ?_ ?_<;>intro h
 ·refine cq 4 [4] [B false] 113 ?_
  obtain rfl:=sI h
  exact rP [B false]
 ·refine aq 1 ?_
  refine cq 6 [5] [I (0)] 113 ?_
  obtain⟨y6,hy6,hy61,hy62⟩:=bJ h
  refine b7 rfl ?_
  refine rf [0,1,5] [] (JW a_1 b_2 rfl 0 _ hy6 (fun r' e st hq=>by rw[hy61 r' e] at hq;exact hq) fun u6 hu=>?_)
  replace h:=hy62 u6 hu
  refine cq 4 [4] [B true] 17 ?_
  obtain rfl:=sI h
  exact rP [B true]
theorem Nq {G:cM}:cH G 49 yK:=gT 2 0 bU cW Tryz.func49 (fun a r h=>QM a.1 a.2 r h)
def Dw:(Condition×Condition)→List V:=cA aD (oA aD)
def Dx (r:Bool):V×List V:=(B r,[])
noncomputable def tx (bo:(Condition×Condition)→Option Bool):Ent:=bx [false,false] Dw Dx bo
theorem IA (bo:(Condition×Condition)→Option Bool){x}{r}(h:bo x=some r):(tx bo).F (Dw x)=some (Dx r):=aP (bp ba (aQ ba)) h
def AJ:((List Condition)×(List Condition))→List V:=cA (lc ar) (oA (lc ar))
def AK (r:Bool):V×List V:=(B r,[])
noncomputable def yF (bo:(Condition×Condition)→Option Bool):Ent:=bx [false,false] AJ AK fun x=>uz bo x.1 x.2
theorem Vg (bo:(Condition×Condition)→Option Bool){a_1:List Condition}{b_2:List Condition}{r}(h:uz bo a_1 b_2=some r):(yF bo).F (AJ (a_1,b_2))=some (AK r):=aP (bp (d6 eU) (aQ (d6 eU))) h
noncomputable def Ng :=aJ Tryz.f179
noncomputable def Hu (bo:(Condition×Condition)→Option Bool):Env:=cV [(148,(tx bo))]
def Nf (bo:(Condition×Condition)→Option Bool)(x:(List Condition)×(List Condition))(r:Bool):St→Prop:=QF (Hu bo) Tryz.f179 [false,false] (AJ x) (AK r)
theorem JU (bo:(Condition×Condition)→Option Bool)(a_1:List Condition)(b_2:List Condition):cJ (Hu bo) 0 (Nf bo (a_1,b_2)) (cL (cL (cR (cL (cR (cR Ng)))))) 0 (pJ bo a_1 b_2) (fun u=>(sT 27 [] [] 1)) fun x3=>(sT 27 [(0,.isl false (a_1.map ar)),(1,.isl false (b_2.map ar)),(5,I x3)] [] 1):=eF (xi bo a_1 b_2) fun {Q K} hK self ih x3 y h hr hn=>by
 unfold kj at h
 refine cq 5 [11,12] [I x3,.isl false (a_1.map ar)] 33 ?_
 refine oq 49 (I (len a_1)) rfl (bG rfl rfl rfl (cF rfl)) ?_
 refine cq 2 [14] [B (decide (x3<(len a_1)))] 65 ?_
 refine sq h ?_ ?_<;>intro h
 ·refine aq 1 ?_
  refine aq 3 ?_
  refine fp [0,0,3,7,0,0,48,112,255,511] rfl (by decide +kernel) ?_
  refine dk 2 [18,17] [I x3,.isl false (a_1.map ar)] ?_
  obtain⟨e4,he4,h⟩:=bS h
  refine dq [] [] (.iptr (aa e4) 0) rfl (an rfl rfl rfl (bC rfl rfl (aY e4) rfl he4)) ?_
  refine dq [] [] (aa e4) rfl (cQ rfl rfl) ?_
  refine dk 2 [22,21] [I x3,.isl false (b_2.map ar)] ?_
  obtain⟨e5,he5,h⟩:=bS h
  refine dq [] [] (.iptr (aa e5) 0) rfl (an rfl rfl rfl (bC rfl rfl (aY e5) rfl he5)) ?_
  refine dq [] [] (aa e5) rfl (cQ rfl rfl) ?_
  obtain⟨r6,hr6,h⟩:=bS h
  refine dq [] [] (B r6) rfl (aV rfl rfl (bq rfl rfl rfl (bi (bI rfl) (bi (bI rfl) cu)) (IA bo hr6) (.inr rfl) cG rfl rfl rfl)) ?_ (dW rfl rfl rfl rfl (bi (bI rfl) (bi (bI rfl) cu)) (IA bo hr6) (.inr rfl) rfl)
  refine dk 1 [26] [B (!r6)] ?_
  refine de 225 rfl rfl ?_
  refine sq h ?_ ?_<;>intro h
  ·refine cq 4 [4] [B false] 241 ?_
   exact bX rfl (hr _ (ap h) _ (qp [B false]))
  ·refine aq 1 ?_
   refine cq 6 [5] [I (aj (x3+1))] 273 ?_
   refine dF ?_
   exact rf [0,1,5] [] (ih _ _ h hr hn :)
 ·refine aq 1 ?_
  exact rf [] [] (hn _ (ap h) :) (hk:=hK)
theorem QJ (bo:(Condition×Condition)→Option Bool)(a_1:List Condition)(b_2:List Condition)(r:Bool)(h:uz bo a_1 b_2=some r):bP (Hu bo) Tryz.f179 [false,false] 0 (AJ (a_1,b_2)) (AK r):=by
 show Run _ _ (Nf bo (a_1,b_2) r) [.code Ng] _
 refine rI 27 [(0,.isl false (a_1.map ar)),(1,.isl false (b_2.map ar))] [] 1 ?_
 unfold uz at h
 refine cq 8 [6] [.isl false (a_1.map ar)] 33 ?_
 refine oq 49 (I (len a_1)) rfl (bG rfl rfl rfl (cF rfl)) ?_
 refine cq 1 [8] [.isl false (b_2.map ar)] 65 ?_
 refine oq 81 (I (len b_2)) rfl (bG rfl rfl rfl (cF rfl)) ?_
 refine cq 2 [10] [B ((len a_1) != (len b_2))] 97 ?_
 refine sq h ?_ ?_<;>intro h
 ·refine cq 4 [4] [B false] 113 ?_
  obtain rfl:=sI h
  exact rP [B false]
 ·refine aq 1 ?_
  refine cq 6 [5] [I (0)] 113 ?_
  obtain⟨y7,hy7,hy71,hy72⟩:=bJ h
  refine b7 rfl ?_
  refine rf [0,1,5] [] (JU bo a_1 b_2 rfl 0 _ hy7 (fun r' e st hq=>by rw[hy71 r' e] at hq;exact hq) fun u7 hu=>?_)
  replace h:=hy72 u7 hu
  refine cq 4 [4] [B true] 17 ?_
  obtain rfl:=sI h
  exact rP [B true]
theorem Nh {G:cM}(bo:(Condition×Condition)→Option Bool)(ME:cH G 148 (tx bo)):cH G 179 (yF bo):=gT 2 0 (aR ME bU) cW Tryz.func179 (fun a r h=>QJ bo a.1 a.2 r h)
noncomputable def EU :=tx (aA qK)
theorem Xt {a_1:Condition}{b_2:Condition}{r}(h:Iz a_1 b_2=some r):EU.F (Dw (a_1,b_2))=some (Dx r):=IA (aA qK) h
noncomputable def Xv :=aJ Tryz.f148
noncomputable def Ty (bo:(Condition×Condition)→Option Bool):Env:=cV [(179,(yF bo))]
def Xu (bo:(Condition×Condition)→Option Bool)(x:Condition×Condition)(r:Bool):St→Prop:=QF (Ty bo) Tryz.f148 [false,false] (Dw x) (Dx r)
theorem Ur (bo:(Condition×Condition)→Option Bool)(a_1:Condition)(b_2:Condition)(r:Bool)(h:wG bo a_1 b_2=some r):bP (Ty bo) Tryz.f148 [false,false] 0 (Dw (a_1,b_2)) (Dx r):=by
 show Run _ _ (Xu bo (a_1,b_2) r) [.code Xv] _
 refine rI 26 [(0,aa a_1),(1,aa b_2)] [] 1 ?_
 unfold wG at h
 refine ck 15 [2,3,9] [] [1,17] [] [.hp 1 0 [] 4 0 0,.hp 17 0 [] 4 0 0,B (a_1.Op != b_2.Op)] [some ⟨0,4,[aa a_1]⟩,some ⟨0,4,[aa b_2]⟩] 129 (by kernel_rfl) ?_
 refine sq h ?_ ?_<;>intro h
 ·refine cq 4 [4] [B false] 145 ?_
  obtain rfl:=sI h
  exact rP [B false]
 ·refine aq 1 ?_
  refine cq 9 [14] [B (!(a_1.Name==b_2.Name))] 209 ?_
  refine sq h ?_ ?_<;>intro h
  ·refine cq 4 [4] [B false] 225 ?_
   obtain rfl:=sI h
   exact rP [B false]
  ·refine aq 1 ?_
   refine cq 9 [19] [B (a_1.Day != b_2.Day)] 289 ?_
   refine sq h ?_ ?_<;>intro h
   ·refine cq 4 [4] [B false] 305 ?_
    obtain rfl:=sI h
    exact rP [B false]
   ·refine aq 1 ?_
    refine cq 7 [21,23] [.isl false (a_1.Parts.map ar),.isl false (b_2.Parts.map ar)] 353 ?_
    obtain⟨r3,hr3,h⟩:=bS h
    refine oq 369 (B r3) rfl (aV rfl rfl (bq rfl rfl rfl (bi (bI rfl) (bi (bI rfl) cu)) (Vg bo hr3) (.inr rfl) cG rfl rfl rfl)) ?_
    refine cq 2 [25] [B (!r3)] 385 ?_
    refine sq h ?_ ?_<;>intro h
    ·refine cq 4 [4] [B false] 401 ?_
     obtain rfl:=sI h
     exact rP [B false]
    ·refine aq 1 ?_
     refine cq 4 [4] [B true] 401 ?_
     obtain rfl:=sI h
     exact rP [B true]
theorem Sa {G:cM}:cH G 148 EU:=gp fun bo ME=>gT 2 0 (aR (Nh bo ME) bU) cW Tryz.func148 (fun a r h=>Ur bo a.1 a.2 r h)
def Hh:(Clause×Clause)→List V:=cA ao (oA ao)
def Hi (r:Bool):V×List V:=(B r,[])
noncomputable def ES :=bx [false,false] Hh Hi fun x=>FD x.1 x.2
theorem Tv {a_1:Clause}{b_2:Clause}{r}(h:FD a_1 b_2=some r):ES.F (Hh (a_1,b_2))=some (Hi r):=aP (bp cC (aQ cC)) h
noncomputable def Xr :=aJ Tryz.f104
noncomputable def Tu :=cV [(148,EU)]
def Xq (x:Clause×Clause)(r:Bool):St→Prop:=QF Tu Tryz.f104 [false,false] (Hh x) (Hi r)
theorem Um (a_1:Clause)(b_2:Clause)(r:Bool)(h:FD a_1 b_2=some r):bP Tu Tryz.f104 [false,false] 0 (Hh (a_1,b_2)) (Hi r):=by
 show Run _ _ (Xq (a_1,b_2) r) [.code Xr] _
 refine rI 51 [(0,ak a_1),(1,ak b_2)] [] 1 ?_
 unfold FD at h
 refine ck 15 [2,3,9] [] [1,17] [] [.hp 1 0 [] 12 0 0,.hp 17 0 [] 12 0 0,B (!(a_1.Id==b_2.Id))] [some ⟨0,12,[ak a_1]⟩,some ⟨0,12,[ak b_2]⟩] 129 (by kernel_rfl) ?_
 refine sq h ?_ ?_<;>intro h
 ·refine cq 4 [4] [B false] 145 ?_
  obtain rfl:=sI h
  exact rP [B false]
 ·refine aq 1 ?_
  refine cq 9 [14] [B (a_1.Kind != b_2.Kind)] 209 ?_
  refine sq h ?_ ?_<;>intro h
  ·refine cq 4 [4] [B false] 225 ?_
   obtain rfl:=sI h
   exact rP [B false]
  ·refine aq 1 ?_
   refine cq 9 [19] [B (a_1.Party != b_2.Party)] 289 ?_
   refine sq h ?_ ?_<;>intro h
   ·refine cq 4 [4] [B false] 305 ?_
    obtain rfl:=sI h
    exact rP [B false]
   ·refine aq 1 ?_
    refine cq 9 [24] [B (!(a_1.Action==b_2.Action))] 369 ?_
    refine sq h ?_ ?_<;>intro h
    ·refine cq 4 [4] [B false] 385 ?_
     obtain rfl:=sI h
     exact rP [B false]
    ·refine aq 1 ?_
     refine cq 9 [29] [B (a_1.Other != b_2.Other)] 449 ?_
     refine sq h ?_ ?_<;>intro h
     ·refine cq 4 [4] [B false] 465 ?_
      obtain rfl:=sI h
      exact rP [B false]
     ·refine aq 1 ?_
      refine cq 9 [34] [B (a_1.Amount != b_2.Amount)] 529 ?_
      refine sq h ?_ ?_<;>intro h
      ·refine cq 4 [4] [B false] 545 ?_
       obtain rfl:=sI h
       exact rP [B false]
      ·refine aq 1 ?_
       refine cq 7 [36,38] [aa a_1.When,aa b_2.When] 593 ?_
       obtain⟨r3,hr3,h⟩:=bS h
       refine oq 609 (B r3) rfl (cP (Xt hr3)) ?_
       refine cq 2 [40] [B (!r3)] 625 ?_
       refine sq h ?_ ?_<;>intro h
       ·refine cq 4 [4] [B false] 641 ?_
        obtain rfl:=sI h
        exact rP [B false]
       ·refine aq 1 ?_
        refine cq 9 [45] [B (a_1.Within != b_2.Within)] 705 ?_
        refine sq h ?_ ?_<;>intro h
        ·refine cq 4 [4] [B false] 721 ?_
         obtain rfl:=sI h
         exact rP [B false]
        ·refine aq 1 ?_
         refine cq 9 [50] [B (!(a_1.Repair==b_2.Repair))] 785 ?_
         refine sq h ?_ ?_<;>intro h
         ·refine cq 4 [4] [B false] 801 ?_
          obtain rfl:=sI h
          exact rP [B false]
         ·refine aq 1 ?_
          refine cq 4 [4] [B true] 801 ?_
          obtain rfl:=sI h
          exact rP [B true]
theorem R8 {G:cM}:cH G 104 ES:=gT 2 0 (aR Sa bU) cW Tryz.func104 (fun a r h=>Um a.1 a.2 r h)
def Hj:((List Clause)×(List Clause))→List V:=cA (lc ao) (oA (lc ao))
def Hk (r:Bool):V×List V:=(B r,[])
noncomputable def ET :=bx [false,false] Hj Hk fun x=>Iy x.1 x.2
theorem Xs {a_1:List Clause}{b_2:List Clause}{r}(h:Iy a_1 b_2=some r):ET.F (Hj (a_1,b_2))=some (Hk r):=aP (bp (d6 cC) (aQ (d6 cC))) h
noncomputable def Tx :=aJ Tryz.f50
noncomputable def Mj :=cV [(104,ES)]
def Tw (x:(List Clause)×(List Clause))(r:Bool):St→Prop:=QF Mj Tryz.f50 [false,false] (Hj x) (Hk r)
theorem Mk (a_1:List Clause)(b_2:List Clause):cJ Mj 0 (Tw (a_1,b_2)) (cL (cL (cR (cL (cR (cR Tx)))))) 0 (vD a_1 b_2) (fun u=>(sT 27 [] [] 1)) fun x3=>(sT 27 [(0,.isl false (a_1.map ao)),(1,.isl false (b_2.map ao)),(5,I x3)] [] 1):=eF (Dv a_1 b_2) fun {Q K} hK self ih x3 y h hr hn=>by
 unfold nX at h
 refine cq 5 [11,12] [I x3,.isl false (a_1.map ao)] 33 ?_
 refine oq 49 (I (len a_1)) rfl (bG rfl rfl rfl (cF rfl)) ?_
 refine cq 2 [14] [B (decide (x3<(len a_1)))] 65 ?_
 refine sq h ?_ ?_<;>intro h
 ·refine aq 1 ?_
  refine aq 3 ?_
  refine fp [0,0,3,7,0,0,48,112,255,511] rfl (by decide +kernel) ?_
  refine dk 2 [18,17] [I x3,.isl false (a_1.map ao)] ?_
  obtain⟨e4,he4,h⟩:=bS h
  refine dq [] [] (.iptr (ak e4) 0) rfl (an rfl rfl rfl (bC rfl rfl rfl rfl he4)) ?_
  refine dq [] [] (ak e4) rfl (cQ rfl rfl) ?_
  refine dk 2 [22,21] [I x3,.isl false (b_2.map ao)] ?_
  obtain⟨e5,he5,h⟩:=bS h
  refine dq [] [] (.iptr (ak e5) 0) rfl (an rfl rfl rfl (bC rfl rfl rfl rfl he5)) ?_
  refine dq [] [] (ak e5) rfl (cQ rfl rfl) ?_
  obtain⟨r6,hr6,h⟩:=bS h
  refine dq [] [] (B r6) rfl (cP (Tv hr6)) ?_ (dW rfl rfl rfl rfl (bi (bI rfl) (bi (bI rfl) cu)) (Tv hr6) (.inr rfl) rfl)
  refine dk 1 [26] [B (!r6)] ?_
  refine de 225 rfl rfl ?_
  refine sq h ?_ ?_<;>intro h
  ·refine cq 4 [4] [B false] 241 ?_
   exact bX rfl (hr _ (ap h) _ (qp [B false]))
  ·refine aq 1 ?_
   refine cq 6 [5] [I (aj (x3+1))] 273 ?_
   refine dF ?_
   exact rf [0,1,5] [] (ih _ _ h hr hn :)
 ·refine aq 1 ?_
  exact rf [] [] (hn _ (ap h) :) (hk:=hK)
theorem Uo (a_1:List Clause)(b_2:List Clause)(r:Bool)(h:Iy a_1 b_2=some r):bP Mj Tryz.f50 [false,false] 0 (Hj (a_1,b_2)) (Hk r):=by
 show Run _ _ (Tw (a_1,b_2) r) [.code Tx] _
 refine rI 27 [(0,.isl false (a_1.map ao)),(1,.isl false (b_2.map ao))] [] 1 ?_
 unfold Iy at h
 refine cq 8 [6] [.isl false (a_1.map ao)] 33 ?_
 refine oq 49 (I (len a_1)) rfl (bG rfl rfl rfl (cF rfl)) ?_
 refine cq 1 [8] [.isl false (b_2.map ao)] 65 ?_
 refine oq 81 (I (len b_2)) rfl (bG rfl rfl rfl (cF rfl)) ?_
 refine cq 2 [10] [B ((len a_1) != (len b_2))] 97 ?_
 refine sq h ?_ ?_<;>intro h
 ·refine cq 4 [4] [B false] 113 ?_
  obtain rfl:=sI h
  exact rP [B false]
 ·refine aq 1 ?_
  refine cq 6 [5] [I (0)] 113 ?_
  obtain⟨y7,hy7,hy71,hy72⟩:=bJ h
  refine b7 rfl ?_
  refine rf [0,1,5] [] (Mk a_1 b_2 rfl 0 _ hy7 (fun r' e st hq=>by rw[hy71 r' e] at hq;exact hq) fun u7 hu=>?_)
  replace h:=hy72 u7 hu
  refine cq 4 [4] [B true] 17 ?_
  obtain rfl:=sI h
  exact rP [B true]
theorem R9 {G:cM}:cH G 50 ET:=gT 2 0 (aR R8 bU) cW Tryz.func50 (fun a r h=>Uo a.1 a.2 r h)
def AL:(Contract×Contract)→List V:=cA aI (oA aI)
def AM (r:Bool):V×List V:=(B r,[])
noncomputable def yH :=bx [false,false] AL AM fun x=>yG x.1 x.2
theorem Nj {a_1:Contract}{b_2:Contract}{r}(h:yG a_1 b_2=some r):yH.F (AL (a_1,b_2))=some (AM r):=aP (bp bB (aQ bB)) h
noncomputable def Vi :=aJ Tryz.f17
noncomputable def Ni :=cV [(49,yK),(50,ET)]
def Vh (x:Contract×Contract)(r:Bool):St→Prop:=QF Ni Tryz.f17 [false,false] (AL x) (AM r)
theorem QK (a_1:Contract)(b_2:Contract)(r:Bool)(h:yG a_1 b_2=some r):bP Ni Tryz.f17 [false,false] 0 (AL (a_1,b_2)) (AM r):=by
 show Run _ _ (Vh (a_1,b_2) r) [.code Vi] _
 refine rI 17 [(0,ai a_1),(1,ai b_2)] [] 1 ?_
 unfold yG at h
 refine ck 13 [2,3,6,8] [] [1,17] [] [.hp 1 0 [] 2 0 0,.hp 17 0 [] 2 0 0,.isl false (a_1.Parties.map str),.isl false (b_2.Parties.map str)] [some ⟨0,2,[ai a_1]⟩,some ⟨0,2,[ai b_2]⟩] 113 (by kernel_rfl) ?_
 obtain⟨r3,hr3,h⟩:=bS h
 refine oq 129 (B r3) rfl (cP (Vj hr3)) ?_
 refine cq 2 [10] [B (!r3)] 145 ?_
 refine sq h ?_ ?_<;>intro h
 ·refine cq 4 [4] [B false] 161 ?_
  obtain rfl:=sI h
  exact rP [B false]
 ·refine aq 1 ?_
  refine cq 7 [12,14] [.isl false (a_1.Clauses.map ao),.isl false (b_2.Clauses.map ao)] 209 ?_
  obtain⟨r4,hr4,h⟩:=bS h
  refine oq 225 (B r4) rfl (cP (Xs hr4)) ?_
  refine cq 2 [16] [B (!r4)] 241 ?_
  refine sq h ?_ ?_<;>intro h
  ·refine cq 4 [4] [B false] 257 ?_
   obtain rfl:=sI h
   exact rP [B false]
  ·refine aq 1 ?_
   refine cq 4 [4] [B true] 257 ?_
   obtain rfl:=sI h
   exact rP [B true]
theorem Nk {G:cM}:cH G 17 yH:=gT 2 0 (aR Nq (aR R9 bU)) cW Tryz.func17 (fun a r h=>QK a.1 a.2 r h)
def Bb:Int→List V:=oA I
def Bc (r:ac):V×List V:=(str r,[])
noncomputable def pW :=bx [false] Bb Bc fun x=>mP x
theorem rV {k_1:Int}{r}(h:mP k_1=some r):pW.F (Bb k_1)=some (Bc r):=aP (aQ cf) h
noncomputable def NK :=aJ Tryz.f105
noncomputable def HD :=cV []
def NJ (x:Int)(r:ac):St→Prop:=QF HD Tryz.f105 [false] (Bb x) (Bc r)
theorem J2 (k_1:Int):cJ HD 0 (NJ k_1) (cL (cL (cL (cR (cR (cR NK)))))) 0 (rX k_1) (fun u=>(sT 20 [(3,str u)] [] 1)) fun x2=>(sT 20 [(0,I x2.1),(3,str x2.2)] [] 1):=eF (xq k_1) fun {Q K} hK self ih x2 y h hr hn=>by
 unfold kt at h
 refine cq 6 [7] [B (decide (x2.1>0))] 33 ?_
 refine sq h ?_ ?_<;>intro h
 ·refine aq 1 ?_
  refine cq 7 [11] [.int .u8 (IntKind.u8.wrap (aj (48+(x2.1.tmod 10))))] 97 ?_
  refine oq 113 (.hs 97 0 [] 1 0 1) rfl (bV rfl (fb (f:=I) (xs:=[]) (z:=.int .u8 (0)) (es:=[.int .u8 (IntKind.u8.wrap (aj (48+(x2.1.tmod 10))))]) (ws:=[.int .u8 (IntKind.u8.wrap (aj (48+(x2.1.tmod 10))))]) rfl rfl rfl (by decide) rfl (bw rfl) rfl)) ?_
  refine oq 129 (str ([(IntKind.u8.wrap (aj (48+(x2.1.tmod 10))))].map fun n=>UInt8.ofNat n.toNat)) rfl (WA rfl (Sl (xs:=[(IntKind.u8.wrap (aj (48+(x2.1.tmod 10))))]) rfl rfl rfl (XK (path:=[]) rfl rfl aG rfl))) ?_
  refine cq 1 [14] [str x2.2] 145 ?_
  obtain⟨s3,hs3,h⟩:=bS h
  refine oq 161 (str s3) rfl (wK rfl rfl (TA hs3)) ?_
  refine cq 8 [0,3] [I (aj (x2.1.tdiv 10)),str s3] 225 ?_
  refine dF ?_
  exact rf [0,3] [] (ih _ _ h hr hn :)
 ·refine aq 1 ?_
  exact rf [3] [] (hn _ (ap h) :) (hk:=hK)
theorem QU (k_1:Int)(r:ac)(h:mP k_1=some r):bP HD Tryz.f105 [false] 0 (Bb k_1) (Bc r):=by
 show Run _ _ (NJ k_1 r) [.code NK] _
 refine rI 20 [(0,I k_1)] [] 1 ?_
 unfold mP at h
 refine cq 10 [5] [B (decide (k_1≤0))] 49 ?_
 refine sq h ?_ ?_<;>intro h
 ·refine cq 4 [2] [str ([109,48]:ac)] 65 ?_
  obtain rfl:=sI h
  exact rP [str ([109,48]:ac)]
 ·refine aq 1 ?_
  refine cq 6 [3] [str ([]:ac)] 65 ?_
  obtain⟨y4,hy4,hy41,hy42⟩:=bJ h
  refine b7 rfl ?_
  refine rf [0,3] [] (J2 k_1 rfl (k_1,([]:ac)) _ hy4 (fun r' e st hq=>by rw[hy41 r' e] at hq;exact hq) fun u4 hu=>?_)
  replace h:=hy42 u4 hu
  refine cq 3 [18] [str u4] 17 ?_
  obtain⟨s5,hs5,h⟩:=bS h
  refine oq 33 (str s5) rfl (wK rfl rfl (TA hs5)) ?_
  refine cq 2 [2] [str s5] 49 ?_
  obtain rfl:=sI h
  exact rP [str s5]
theorem uE {G:cM}:cH G 105 pW:=gT 1 0 bU cW Tryz.func105 (fun a r h=>QU a r h)
def A8:((List ac)×Int)→List V:=cA (po 1 str) (oA I)
def A9 (r:Int×(List ac)):V×List V:=(I r.1,[.usl 1 (r.2.map str)])
noncomputable def yU :=bx [true,false] A8 A9 fun x=>yT x.1 x.2
theorem Vq {a_7:List ac}{k_8:Int}{r}(h:yT a_7 k_8=some r):yU.F (A8 (a_7,k_8))=some (A9 r):=aP (bp (fW bH) (aQ cf)) h
noncomputable def NH :=aJ Tryz.f51
noncomputable def HC :=cV [(105,pW)]
def NG (x:(List ac)×Int)(r:Int×(List ac)):St→Prop:=QF HC Tryz.f51 [true,false] (A8 x) (A9 r)
theorem J1 (a_7:List ac)(k_8:Int):cJ HC 1 (NG (a_7,k_8)) (cL (cL (cR (cL (cR NH))))) 0 (rU a_7 k_8) (fun u=>(sT 20 [(1,I u.1)] [⟨0,1,u.2.map str⟩] 2)) fun x3=>(sT 20 [(0,.hs 1 0 [] 1 0 (x3.2.2.map str).length),(1,I x3.1),(5,I x3.2.1)] [⟨0,1,x3.2.2.map str⟩] 2):=eF (xp a_7 k_8) fun {Q K} hK self ih x3 y h hr hn=>by
 unfold ks at h
 refine cq 5 [6,7] [I x3.2.1,.hs 1 0 [] 1 0 (x3.2.2.map str).length] 34 ?_
 refine oq 50 (I (len x3.2.2)) rfl (bG rfl rfl rfl (gL (f:=str) (xs:=x3.2.2) rfl rfl)) ?_
 refine cq 2 [9] [B (decide (x3.2.1<(len x3.2.2)))] 66 ?_
 refine sq h ?_ ?_<;>intro h
 ·refine aq 1 ?_
  refine cq 7 [12,13,14] [.hs 1 0 [] 1 0 (x3.2.2.map str).length,I x3.2.1,I x3.1] 114 ?_
  obtain⟨r4,hr4,h⟩:=bS h
  refine oq 130 (str r4) rfl (cP (rV hr4)) ?_
  obtain⟨e5,he5,h⟩:=bS h
  refine oq 146 (.hp 1 0 [] 1 (0+Int.toNat x3.2.1) 0) rfl (an rfl rfl rfl (dG (f:=str) (xs:=x3.2.2) rfl rfl rfl he5)) ?_
  refine o0 162 rfl rfl (fJ rfl rfl (eJ (path:=[]) (pl:=true) (e':=str r4) (es2':=(cT x3.2.2 x3.2.1 r4).map str) rfl (bu rfl) rfl rfl rfl aG (cX (f:=str) (xs:=x3.2.2) he5) rfl rfl rfl (jY (f:=str) (xs:=x3.2.2) (y:=r4)) ee 0 rfl)) ?_
  try rw[←ij (f:=str) (xs:=x3.2.2) (i:=x3.2.1) (z:=r4)]
  refine cq 12 [1,5] [I (aj (x3.1+1)),I (aj (x3.2.1+1))] 258 ?_
  refine dF ?_
  exact rf [0,1,5] [1] (ih _ _ h hr hn :)
 ·refine aq 1 ?_
  exact rf [1] [1] (hn _ (ap h) :) (hk:=hK)
theorem QT (a_7:List ac)(k_8:Int)(r:Int×(List ac))(h:yT a_7 k_8=some r):bP HC Tryz.f51 [true,false] 1 (A8 (a_7,k_8)) (A9 r):=by
 show Run _ _ (NG (a_7,k_8) r) [.code NH] _
 refine rI 20 [(0,.hs 1 0 [] 1 0 (a_7.map str).length),(1,I k_8)] [(1,some ⟨0,1,a_7.map str⟩)] 2 ?_
 unfold yT at h
 refine cq 10 [5] [I (0)] 34 ?_
 obtain⟨y6,hy6,hy61,hy62⟩:=bJ h
 refine b7 rfl ?_
 refine rf [0,1,5] [1] (J1 a_7 k_8 rfl (k_8,0,a_7) _ hy6 (fun r' e st hq=>by rw[hy61 r' e] at hq;exact hq) fun u6 hu=>?_)
 replace h:=hy62 u6 hu
 refine cq 5 [4] [I u6.1] 34 ?_
 obtain⟨g7,h⟩:=gG h
 obtain rfl:=sI h
 exact bX rfl ⟨_,fin (vs:=[I u6.1]) rfl (d8 (bu rfl) dX) rfl (kb rfl (D1 (f:=str) (xs:=u6.2) (by simpa using g7) rfl) (d9 eC)),MP ez⟩
theorem NI {G:cM}:cH G 51 yU:=gT 2 1 (aR uE bU) cW Tryz.func51 (fun a r h=>QT a.1 a.2 r h)
def uB:((List Condition)×Int)→List V:=cA (po 4 ae) (oA I)
def uC (r:Int×(List Condition)):V×List V:=(I r.1,[.usl 4 (r.2.map ae)])
noncomputable def uD (b8:((List Condition)×Int)→Option (Int×(List Condition))):Ent:=bx [true,false] uB uC b8
theorem KP (b8:((List Condition)×Int)→Option (Int×(List Condition))){x}{r}(h:b8 x=some r):(uD b8).F (uB x)=some (uC r):=aP (bp (fW kR) (aQ cf)) h
noncomputable def yO :=uD (aA kq)
theorem Vl {a_6:List Condition}{k_7:Int}{r}(h:LK a_6 k_7=some r):yO.F (uB (a_6,k_7))=some (uC r):=KP (aA kq) h
noncomputable def Nz :=aJ Tryz.f106
noncomputable def HA (b8:((List Condition)×Int)→Option (Int×(List Condition))):Env:=cV [(105,pW),(106,(uD b8))]
def Ny (b8:((List Condition)×Int)→Option (Int×(List Condition)))(x:(List Condition)×Int)(r:Int×(List Condition)):St→Prop:=QF (HA b8) Tryz.f106 [true,false] (uB x) (uC r)
theorem JZ (b8:((List Condition)×Int)→Option (Int×(List Condition)))(a_6:List Condition)(k_7:Int):cJ (HA b8) 1 (Ny b8 (a_6,k_7)) (cL (cL (cR (cL (cR Nz))))) 0 (lg b8 a_6 k_7) (fun u=>(sT 42 [(1,I u.1)] [⟨0,4,u.2.map ae⟩] 2)) fun x3=>(sT 42 [(0,.hs 1 0 [] 4 0 (x3.2.2.map ae).length),(1,I x3.1),(5,I x3.2.1)] [⟨0,4,x3.2.2.map ae⟩] 2):=eF (xn b8 a_6 k_7) fun {Q K} hK self ih x3 y h hr hn=>by
 unfold jr at h
 refine cq 5 [6,7] [I x3.2.1,.hs 1 0 [] 4 0 (x3.2.2.map ae).length] 34 ?_
 refine oq 50 (I (len x3.2.2)) rfl (bG rfl rfl rfl (gL (f:=ae) (xs:=x3.2.2) rfl rfl)) ?_
 refine cq 2 [9] [B (decide (x3.2.1<(len x3.2.2)))] 66 ?_
 refine sq h ?_ ?_<;>intro h
 ·refine aq 1 ?_
  refine cq 7 [12,13,14] [.hs 1 0 [] 4 0 (x3.2.2.map ae).length,I x3.2.1,I x3.1] 114 ?_
  obtain⟨e4,he4,h⟩:=bS h
  refine oq 130 (.hp 1 0 [] 4 (0+Int.toNat x3.2.1) 0) rfl (an rfl rfl rfl (dG (f:=ae) (xs:=x3.2.2) rfl rfl rfl he4)) ?_
  refine cq 1 [16] [.hp 1 0 [] 4 (0+Int.toNat x3.2.1) 0] 146 ?_
  refine o0 162 rfl rfl (fJ rfl rfl (eJ (path:=[]) (pl:=true) (e':=.agg [I x3.1,str e4.Name,I e4.Day,.usl 4 (e4.Parts.map ae)]) (es2':=(cT x3.2.2 x3.2.1 (Condition.mk x3.1 e4.Name e4.Day e4.Parts)).map ae) rfl (bu rfl) rfl rfl rfl aG (kT (f:=ae) (xs:=x3.2.2) (cU e4) he4) rfl rfl rfl (AD (f:=ae) (xs:=x3.2.2) (cU (Condition.mk x3.1 e4.Name e4.Day e4.Parts))) ee 0 rfl)) ?_
  try rw[←ij (f:=ae) (xs:=x3.2.2) (i:=x3.2.1) (z:=(Condition.mk x3.1 e4.Name e4.Day e4.Parts))]
  refine cq 12 [1,19,20,21] [I (aj (x3.1+1)),.hs 1 0 [] 4 0 ((cT x3.2.2 x3.2.1 (Condition.mk x3.1 e4.Name e4.Day e4.Parts)).map ae).length,I x3.2.1,I (aj (x3.1+1))] 258 ?_
  obtain⟨r5,hr5,h⟩:=bS h
  refine oq 274 (str r5) rfl (cP (rV hr5)) ?_
  obtain⟨e6,he6,h⟩:=bS h
  refine oq 290 (.hp 1 0 [] 4 (0+Int.toNat x3.2.1) 0) rfl (an rfl rfl rfl (dG (f:=ae) (xs:=(cT x3.2.2 x3.2.1 (Condition.mk x3.1 e4.Name e4.Day e4.Parts))) rfl rfl rfl he6)) ?_
  refine cq 1 [24] [.hp 1 0 [] 4 (0+Int.toNat x3.2.1) 1] 306 ?_
  obtain⟨rw7,hrw7,h⟩:=lJ h
  refine o0 322 rfl rfl (fJ rfl rfl (eJ (path:=[]) (pl:=true) (e':=.agg [I e6.Op,str r5,I e6.Day,.usl 4 (e6.Parts.map ae)]) (es2':=(rw7).map ae) rfl (bu rfl) rfl rfl rfl aG (kT (f:=ae) (xs:=(cT x3.2.2 x3.2.1 (Condition.mk x3.1 e4.Name e4.Day e4.Parts))) (cU e6) he6) rfl rfl rfl (wm (f:=ae) (xs:=(cT x3.2.2 x3.2.1 (Condition.mk x3.1 e4.Name e4.Day e4.Parts))) (cU (Condition.mk e6.Op r5 e6.Day e6.Parts)) hrw7) ee 0 rfl)) ?_
  try rw[←fu hrw7 (f:=ae) (xs:=(cT x3.2.2 x3.2.1 (Condition.mk x3.1 e4.Name e4.Day e4.Parts)))]
  refine cq 12 [1,27,28,29] [I (aj ((aj (x3.1+1))+1)),.hs 1 0 [] 4 0 (rw7.map ae).length,I x3.2.1,I (aj ((aj (x3.1+1))+1))] 418 ?_
  obtain⟨e9,he9,h⟩:=bS h
  refine oq 434 (.hp 1 0 [] 4 (0+Int.toNat x3.2.1) 0) rfl (an rfl rfl rfl (dG (f:=ae) (xs:=rw7) rfl rfl rfl he9)) ?_
  refine cq 1 [31] [.hp 1 0 [] 4 (0+Int.toNat x3.2.1) 2] 450 ?_
  obtain⟨rw10,hrw10,h⟩:=lJ h
  refine o0 466 rfl rfl (fJ rfl rfl (eJ (path:=[]) (pl:=true) (e':=.agg [I e9.Op,str e9.Name,I (aj ((aj (x3.1+1))+1)),.usl 4 (e9.Parts.map ae)]) (es2':=(rw10).map ae) rfl (bu rfl) rfl rfl rfl aG (kT (f:=ae) (xs:=rw7) (cU e9) he9) rfl rfl rfl (wm (f:=ae) (xs:=rw7) (cU (Condition.mk e9.Op e9.Name (aj ((aj (x3.1+1))+1)) e9.Parts)) hrw10) ee 0 rfl)) ?_
  try rw[←fu hrw10 (f:=ae) (xs:=rw7)]
  refine cq 10 [1,34,35] [I (aj ((aj ((aj (x3.1+1))+1))+1)),.hs 1 0 [] 4 0 (rw10.map ae).length,I x3.2.1] 546 ?_
  obtain⟨e13,he13,h⟩:=bS h
  refine oq 562 (.hp 1 0 [] 4 (0+Int.toNat x3.2.1) 0) rfl (an rfl rfl rfl (dG (f:=ae) (xs:=rw10) rfl rfl rfl he13)) ?_
  refine cq 1 [37] [.hp 1 0 [] 4 (0+Int.toNat x3.2.1) 3] 578 ?_
  refine oq 594 (.hs 1 0 [((0+Int.toNat x3.2.1),3)] 4 0 (e13.Parts.map ae).length) rfl (cQ rfl (iH (path:=[]) rfl rfl rfl aG (kT (f:=ae) (xs:=rw10) (cU e13) he13) rfl rfl rfl)) ?_
  refine cq 1 [39] [I (aj ((aj ((aj (x3.1+1))+1))+1))] 610 ?_
  obtain⟨r14,hr14,h⟩:=bS h
  obtain⟨g15,h⟩:=gG h
  obtain⟨rw16,hrw16,h⟩:=lJ h
  refine oq 626 (I r14.1) rfl (aV rfl rfl (bq rfl rfl rfl (fk (eY rfl (dD (path:=[((0+Int.toNat x3.2.1),3)]) rfl rfl (gZ (kT (f:=ae) (xs:=rw10) (cU e13) he13) rfl aG) rfl)) (bi (bI rfl) cu)) (KP b8 hr14) (.inr rfl) (fP rfl rfl rfl (Mu (gZ (kT (f:=ae) (xs:=rw10) (cU e13) he13) rfl aG) (jV (f:=ae) (xs:=e13.Parts) (ys:=r14.2) g15).symm (M3 (kT (f:=ae) (xs:=rw10) (cU e13) he13) rfl ee (rfl:(_:V)=.agg [I e13.Op,str e13.Name,I e13.Day,.usl 4 (r14.2.map ae)]) (wm (f:=ae) (xs:=rw10) (cU (Condition.mk e13.Op e13.Name e13.Day r14.2)) hrw16))) cG) rfl rfl rfl)) ?_
  try rw[jV (f:=ae) (xs:=e13.Parts) (ys:=r14.2) g15]
  try rw[←fu hrw16 (f:=ae) (xs:=rw10)]
  refine cq 8 [1,5] [I r14.1,I (aj (x3.2.1+1))] 690 ?_
  refine dF ?_
  exact rf [0,1,5] [1] (ih _ _ h hr hn :)
 ·refine aq 1 ?_
  exact rf [1] [1] (hn _ (ap h) :) (hk:=hK)
theorem QQ (b8:((List Condition)×Int)→Option (Int×(List Condition)))(a_6:List Condition)(k_7:Int)(r:Int×(List Condition))(h:rS b8 a_6 k_7=some r):bP (HA b8) Tryz.f106 [true,false] 1 (uB (a_6,k_7)) (uC r):=by
 show Run _ _ (Ny b8 (a_6,k_7) r) [.code Nz] _
 refine rI 42 [(0,.hs 1 0 [] 4 0 (a_6.map ae).length),(1,I k_7)] [(1,some ⟨0,4,a_6.map ae⟩)] 2 ?_
 unfold rS at h
 refine cq 10 [5] [I (0)] 34 ?_
 obtain⟨y20,hy20,hy201,hy202⟩:=bJ h
 refine b7 rfl ?_
 refine rf [0,1,5] [1] (JZ b8 a_6 k_7 rfl (k_7,0,a_6) _ hy20 (fun r' e st hq=>by rw[hy201 r' e] at hq;exact hq) fun u20 hu=>?_)
 replace h:=hy202 u20 hu
 refine cq 5 [4] [I u20.1] 34 ?_
 obtain⟨g21,h⟩:=gG h
 obtain rfl:=sI h
 exact bX rfl ⟨_,fin (vs:=[I u20.1]) rfl (d8 (bu rfl) dX) rfl (kb rfl (D1 (f:=ae) (xs:=u20.2) (by simpa using g21) rfl) (d9 eC)),MP ez⟩
theorem NA {G:cM}:cH G 106 yO:=gp fun b8 g_Ffbg=>gT 2 1 (aR uE (aR g_Ffbg bU)) cW Tryz.func106 (fun a r h=>QQ b8 a.1 a.2 r h)
def AW:((List Clause)×Int)→List V:=cA (po 12 ah) (oA I)
def AX (r:Int×(List Clause)):V×List V:=(I r.1,[.usl 12 (r.2.map ah)])
noncomputable def yN :=bx [true,false] AW AX fun x=>yM x.1 x.2
theorem Vk {a_7:List Clause}{k_8:Int}{r}(h:yM a_7 k_8=some r):yN.F (AW (a_7,k_8))=some (AX r):=aP (bp (fW qP) (aQ cf)) h
noncomputable def Nw :=aJ Tryz.f52
noncomputable def Hz :=cV [(105,pW),(106,yO)]
def Nv (x:(List Clause)×Int)(r:Int×(List Clause)):St→Prop:=QF Hz Tryz.f52 [true,false] (AW x) (AX r)
theorem JY (a_7:List Clause)(k_8:Int):cJ Hz 1 (Nv (a_7,k_8)) (cL (cL (cR (cL (cR Nw))))) 0 (mj a_7 k_8) (fun u=>(sT 105 [(1,I u.1)] [⟨0,12,u.2.map ah⟩] 2)) fun x3=>(sT 105 [(0,.hs 1 0 [] 12 0 (x3.2.2.map ah).length),(1,I x3.1),(5,I x3.2.1)] [⟨0,12,x3.2.2.map ah⟩] 2):=eF (xm a_7 k_8) fun {Q K} hK self ih x3 y h hr hn=>by
 unfold ko at h
 refine cq 5 [6,7] [I x3.2.1,.hs 1 0 [] 12 0 (x3.2.2.map ah).length] 34 ?_
 refine oq 50 (I (len x3.2.2)) rfl (bG rfl rfl rfl (gL (f:=ah) (xs:=x3.2.2) rfl rfl)) ?_
 refine cq 2 [9] [B (decide (x3.2.1<(len x3.2.2)))] 66 ?_
 refine sq h ?_ ?_<;>intro h
 ·refine aq 1 ?_
  refine cq 7 [12,13,14] [.hs 1 0 [] 12 0 (x3.2.2.map ah).length,I x3.2.1,I x3.1] 114 ?_
  obtain⟨r4,hr4,h⟩:=bS h
  refine oq 130 (str r4) rfl (cP (rV hr4)) ?_
  obtain⟨e5,he5,h⟩:=bS h
  refine oq 146 (.hp 1 0 [] 12 (0+Int.toNat x3.2.1) 0) rfl (an rfl rfl rfl (dG (f:=ah) (xs:=x3.2.2) rfl rfl rfl he5)) ?_
  refine cq 1 [17] [.hp 1 0 [] 12 (0+Int.toNat x3.2.1) 0] 162 ?_
  refine o0 178 rfl rfl (fJ rfl rfl (eJ (path:=[]) (pl:=true) (e':=.agg [str r4,I e5.Kind,I e5.Party,str e5.Action,I e5.Other,I e5.Amount,I e5.When.Op,str e5.When.Name,I e5.When.Day,.usl 4 (e5.When.Parts.map ae),I e5.Within,str e5.Repair]) (es2':=(cT x3.2.2 x3.2.1 (Clause.mk r4 e5.Kind e5.Party e5.Action e5.Other e5.Amount e5.When e5.Within e5.Repair)).map ah) rfl (bu rfl) rfl rfl rfl aG (cX (f:=ah) (xs:=x3.2.2) he5) rfl rfl rfl (jY (f:=ah) (xs:=x3.2.2) (y:=(Clause.mk r4 e5.Kind e5.Party e5.Action e5.Other e5.Amount e5.When e5.Within e5.Repair))) ee 0 rfl)) ?_
  try rw[←ij (f:=ah) (xs:=x3.2.2) (i:=x3.2.1) (z:=(Clause.mk r4 e5.Kind e5.Party e5.Action e5.Other e5.Amount e5.When e5.Within e5.Repair))]
  refine cq 12 [1,20,21,22] [I (aj (x3.1+1)),.hs 1 0 [] 12 0 ((cT x3.2.2 x3.2.1 (Clause.mk r4 e5.Kind e5.Party e5.Action e5.Other e5.Amount e5.When e5.Within e5.Repair)).map ah).length,I x3.2.1,I (aj (x3.1+1))] 274 ?_
  obtain⟨e6,he6,h⟩:=bS h
  refine oq 290 (.hp 1 0 [] 12 (0+Int.toNat x3.2.1) 0) rfl (an rfl rfl rfl (dG (f:=ah) (xs:=(cT x3.2.2 x3.2.1 (Clause.mk r4 e5.Kind e5.Party e5.Action e5.Other e5.Amount e5.When e5.Within e5.Repair))) rfl rfl rfl he6)) ?_
  refine cq 1 [24] [.hp 1 0 [] 12 (0+Int.toNat x3.2.1) 1] 306 ?_
  obtain⟨rw7,hrw7,h⟩:=lJ h
  refine o0 322 rfl rfl (fJ rfl rfl (eJ (path:=[]) (pl:=true) (e':=.agg [str e6.Id,I (aj (x3.1+1)),I e6.Party,str e6.Action,I e6.Other,I e6.Amount,I e6.When.Op,str e6.When.Name,I e6.When.Day,.usl 4 (e6.When.Parts.map ae),I e6.Within,str e6.Repair]) (es2':=(rw7).map ah) rfl (bu rfl) rfl rfl rfl aG (cX (f:=ah) (xs:=(cT x3.2.2 x3.2.1 (Clause.mk r4 e5.Kind e5.Party e5.Action e5.Other e5.Amount e5.When e5.Within e5.Repair))) he6) rfl rfl rfl (iq (f:=ah) (xs:=(cT x3.2.2 x3.2.1 (Clause.mk r4 e5.Kind e5.Party e5.Action e5.Other e5.Amount e5.When e5.Within e5.Repair))) (y:=(Clause.mk e6.Id (aj (x3.1+1)) e6.Party e6.Action e6.Other e6.Amount e6.When e6.Within e6.Repair)) hrw7) ee 0 rfl)) ?_
  try rw[←fu hrw7 (f:=ah) (xs:=(cT x3.2.2 x3.2.1 (Clause.mk r4 e5.Kind e5.Party e5.Action e5.Other e5.Amount e5.When e5.Within e5.Repair)))]
  refine cq 12 [1,27,28,29] [I (aj ((aj (x3.1+1))+1)),.hs 1 0 [] 12 0 (rw7.map ah).length,I x3.2.1,I (aj ((aj (x3.1+1))+1))] 418 ?_
  obtain⟨e9,he9,h⟩:=bS h
  refine oq 434 (.hp 1 0 [] 12 (0+Int.toNat x3.2.1) 0) rfl (an rfl rfl rfl (dG (f:=ah) (xs:=rw7) rfl rfl rfl he9)) ?_
  refine cq 1 [31] [.hp 1 0 [] 12 (0+Int.toNat x3.2.1) 2] 450 ?_
  obtain⟨rw10,hrw10,h⟩:=lJ h
  refine o0 466 rfl rfl (fJ rfl rfl (eJ (path:=[]) (pl:=true) (e':=.agg [str e9.Id,I e9.Kind,I (aj ((aj (x3.1+1))+1)),str e9.Action,I e9.Other,I e9.Amount,I e9.When.Op,str e9.When.Name,I e9.When.Day,.usl 4 (e9.When.Parts.map ae),I e9.Within,str e9.Repair]) (es2':=(rw10).map ah) rfl (bu rfl) rfl rfl rfl aG (cX (f:=ah) (xs:=rw7) he9) rfl rfl rfl (iq (f:=ah) (xs:=rw7) (y:=(Clause.mk e9.Id e9.Kind (aj ((aj (x3.1+1))+1)) e9.Action e9.Other e9.Amount e9.When e9.Within e9.Repair)) hrw10) ee 0 rfl)) ?_
  try rw[←fu hrw10 (f:=ah) (xs:=rw7)]
  refine cq 12 [1,34,35,36] [I (aj ((aj ((aj (x3.1+1))+1))+1)),.hs 1 0 [] 12 0 (rw10.map ah).length,I x3.2.1,I (aj ((aj ((aj (x3.1+1))+1))+1))] 562 ?_
  obtain⟨r13,hr13,h⟩:=bS h
  refine oq 578 (str r13) rfl (cP (rV hr13)) ?_
  obtain⟨e14,he14,h⟩:=bS h
  refine oq 594 (.hp 1 0 [] 12 (0+Int.toNat x3.2.1) 0) rfl (an rfl rfl rfl (dG (f:=ah) (xs:=rw10) rfl rfl rfl he14)) ?_
  refine cq 1 [39] [.hp 1 0 [] 12 (0+Int.toNat x3.2.1) 3] 610 ?_
  obtain⟨rw15,hrw15,h⟩:=lJ h
  refine o0 626 rfl rfl (fJ rfl rfl (eJ (path:=[]) (pl:=true) (e':=.agg [str e14.Id,I e14.Kind,I e14.Party,str r13,I e14.Other,I e14.Amount,I e14.When.Op,str e14.When.Name,I e14.When.Day,.usl 4 (e14.When.Parts.map ae),I e14.Within,str e14.Repair]) (es2':=(rw15).map ah) rfl (bu rfl) rfl rfl rfl aG (cX (f:=ah) (xs:=rw10) he14) rfl rfl rfl (iq (f:=ah) (xs:=rw10) (y:=(Clause.mk e14.Id e14.Kind e14.Party r13 e14.Other e14.Amount e14.When e14.Within e14.Repair)) hrw15) ee 0 rfl)) ?_
  try rw[←fu hrw15 (f:=ah) (xs:=rw10)]
  refine cq 12 [1,42,43,44] [I (aj ((aj ((aj ((aj (x3.1+1))+1))+1))+1)),.hs 1 0 [] 12 0 (rw15.map ah).length,I x3.2.1,I (aj ((aj ((aj ((aj (x3.1+1))+1))+1))+1))] 722 ?_
  obtain⟨e19,he19,h⟩:=bS h
  refine oq 738 (.hp 1 0 [] 12 (0+Int.toNat x3.2.1) 0) rfl (an rfl rfl rfl (dG (f:=ah) (xs:=rw15) rfl rfl rfl he19)) ?_
  refine cq 1 [46] [.hp 1 0 [] 12 (0+Int.toNat x3.2.1) 4] 754 ?_
  obtain⟨rw20,hrw20,h⟩:=lJ h
  refine o0 770 rfl rfl (fJ rfl rfl (eJ (path:=[]) (pl:=true) (e':=.agg [str e19.Id,I e19.Kind,I e19.Party,str e19.Action,I (aj ((aj ((aj ((aj (x3.1+1))+1))+1))+1)),I e19.Amount,I e19.When.Op,str e19.When.Name,I e19.When.Day,.usl 4 (e19.When.Parts.map ae),I e19.Within,str e19.Repair]) (es2':=(rw20).map ah) rfl (bu rfl) rfl rfl rfl aG (cX (f:=ah) (xs:=rw15) he19) rfl rfl rfl (iq (f:=ah) (xs:=rw15) (y:=(Clause.mk e19.Id e19.Kind e19.Party e19.Action (aj ((aj ((aj ((aj (x3.1+1))+1))+1))+1)) e19.Amount e19.When e19.Within e19.Repair)) hrw20) ee 0 rfl)) ?_
  try rw[←fu hrw20 (f:=ah) (xs:=rw15)]
  refine cq 12 [1,49,50,51] [I (aj ((aj ((aj ((aj ((aj (x3.1+1))+1))+1))+1))+1)),.hs 1 0 [] 12 0 (rw20.map ah).length,I x3.2.1,I (aj ((aj ((aj ((aj ((aj (x3.1+1))+1))+1))+1))+1))] 866 ?_
  obtain⟨e25,he25,h⟩:=bS h
  refine oq 882 (.hp 1 0 [] 12 (0+Int.toNat x3.2.1) 0) rfl (an rfl rfl rfl (dG (f:=ah) (xs:=rw20) rfl rfl rfl he25)) ?_
  refine cq 1 [53] [.hp 1 0 [] 12 (0+Int.toNat x3.2.1) 5] 898 ?_
  obtain⟨rw26,hrw26,h⟩:=lJ h
  refine o0 914 rfl rfl (fJ rfl rfl (eJ (path:=[]) (pl:=true) (e':=.agg [str e25.Id,I e25.Kind,I e25.Party,str e25.Action,I e25.Other,I (aj ((aj ((aj ((aj ((aj (x3.1+1))+1))+1))+1))+1)),I e25.When.Op,str e25.When.Name,I e25.When.Day,.usl 4 (e25.When.Parts.map ae),I e25.Within,str e25.Repair]) (es2':=(rw26).map ah) rfl (bu rfl) rfl rfl rfl aG (cX (f:=ah) (xs:=rw20) he25) rfl rfl rfl (iq (f:=ah) (xs:=rw20) (y:=(Clause.mk e25.Id e25.Kind e25.Party e25.Action e25.Other (aj ((aj ((aj ((aj ((aj (x3.1+1))+1))+1))+1))+1)) e25.When e25.Within e25.Repair)) hrw26) ee 0 rfl)) ?_
  try rw[←fu hrw26 (f:=ah) (xs:=rw20)]
  refine cq 12 [1,56,57,58] [I (aj ((aj ((aj ((aj ((aj ((aj (x3.1+1))+1))+1))+1))+1))+1)),.hs 1 0 [] 12 0 (rw26.map ah).length,I x3.2.1,I (aj ((aj ((aj ((aj ((aj ((aj (x3.1+1))+1))+1))+1))+1))+1))] 1010 ?_
  obtain⟨e32,he32,h⟩:=bS h
  refine oq 1026 (.hp 1 0 [] 12 (0+Int.toNat x3.2.1) 0) rfl (an rfl rfl rfl (dG (f:=ah) (xs:=rw26) rfl rfl rfl he32)) ?_
  refine cq 2 [61] [.hp 1 0 [] 12 (0+Int.toNat x3.2.1) 6] 1058 ?_
  obtain⟨rw33,hrw33,h⟩:=lJ h
  refine o0 1074 rfl rfl (fJ rfl rfl (eJ (path:=[]) (pl:=true) (e':=.agg [str e32.Id,I e32.Kind,I e32.Party,str e32.Action,I e32.Other,I e32.Amount,I (aj ((aj ((aj ((aj ((aj ((aj (x3.1+1))+1))+1))+1))+1))+1)),str e32.When.Name,I e32.When.Day,.usl 4 (e32.When.Parts.map ae),I e32.Within,str e32.Repair]) (es2':=(rw33).map ah) rfl (bu rfl) rfl rfl rfl aG (cX (f:=ah) (xs:=rw26) he32) rfl rfl rfl (iq (f:=ah) (xs:=rw26) (y:=(Clause.mk e32.Id e32.Kind e32.Party e32.Action e32.Other e32.Amount (Condition.mk (aj ((aj ((aj ((aj ((aj ((aj (x3.1+1))+1))+1))+1))+1))+1)) e32.When.Name e32.When.Day e32.When.Parts) e32.Within e32.Repair)) hrw33) ee 0 rfl)) ?_
  try rw[←fu hrw33 (f:=ah) (xs:=rw26)]
  refine cq 12 [1,64,65,66] [I (aj ((aj ((aj ((aj ((aj ((aj ((aj (x3.1+1))+1))+1))+1))+1))+1))+1)),.hs 1 0 [] 12 0 (rw33.map ah).length,I x3.2.1,I (aj ((aj ((aj ((aj ((aj ((aj ((aj (x3.1+1))+1))+1))+1))+1))+1))+1))] 1170 ?_
  obtain⟨r40,hr40,h⟩:=bS h
  refine oq 1186 (str r40) rfl (cP (rV hr40)) ?_
  obtain⟨e41,he41,h⟩:=bS h
  refine oq 1202 (.hp 1 0 [] 12 (0+Int.toNat x3.2.1) 0) rfl (an rfl rfl rfl (dG (f:=ah) (xs:=rw33) rfl rfl rfl he41)) ?_
  refine cq 2 [70] [.hp 1 0 [] 12 (0+Int.toNat x3.2.1) 7] 1234 ?_
  obtain⟨rw42,hrw42,h⟩:=lJ h
  refine o0 1250 rfl rfl (fJ rfl rfl (eJ (path:=[]) (pl:=true) (e':=.agg [str e41.Id,I e41.Kind,I e41.Party,str e41.Action,I e41.Other,I e41.Amount,I e41.When.Op,str r40,I e41.When.Day,.usl 4 (e41.When.Parts.map ae),I e41.Within,str e41.Repair]) (es2':=(rw42).map ah) rfl (bu rfl) rfl rfl rfl aG (cX (f:=ah) (xs:=rw33) he41) rfl rfl rfl (iq (f:=ah) (xs:=rw33) (y:=(Clause.mk e41.Id e41.Kind e41.Party e41.Action e41.Other e41.Amount (Condition.mk e41.When.Op r40 e41.When.Day e41.When.Parts) e41.Within e41.Repair)) hrw42) ee 0 rfl)) ?_
  try rw[←fu hrw42 (f:=ah) (xs:=rw33)]
  refine cq 12 [1,73,74,75] [I (aj ((aj ((aj ((aj ((aj ((aj ((aj ((aj (x3.1+1))+1))+1))+1))+1))+1))+1))+1)),.hs 1 0 [] 12 0 (rw42.map ah).length,I x3.2.1,I (aj ((aj ((aj ((aj ((aj ((aj ((aj ((aj (x3.1+1))+1))+1))+1))+1))+1))+1))+1))] 1346 ?_
  obtain⟨e50,he50,h⟩:=bS h
  refine oq 1362 (.hp 1 0 [] 12 (0+Int.toNat x3.2.1) 0) rfl (an rfl rfl rfl (dG (f:=ah) (xs:=rw42) rfl rfl rfl he50)) ?_
  refine cq 2 [78] [.hp 1 0 [] 12 (0+Int.toNat x3.2.1) 8] 1394 ?_
  obtain⟨rw51,hrw51,h⟩:=lJ h
  refine o0 1410 rfl rfl (fJ rfl rfl (eJ (path:=[]) (pl:=true) (e':=.agg [str e50.Id,I e50.Kind,I e50.Party,str e50.Action,I e50.Other,I e50.Amount,I e50.When.Op,str e50.When.Name,I (aj ((aj ((aj ((aj ((aj ((aj ((aj ((aj (x3.1+1))+1))+1))+1))+1))+1))+1))+1)),.usl 4 (e50.When.Parts.map ae),I e50.Within,str e50.Repair]) (es2':=(rw51).map ah) rfl (bu rfl) rfl rfl rfl aG (cX (f:=ah) (xs:=rw42) he50) rfl rfl rfl (iq (f:=ah) (xs:=rw42) (y:=(Clause.mk e50.Id e50.Kind e50.Party e50.Action e50.Other e50.Amount (Condition.mk e50.When.Op e50.When.Name (aj ((aj ((aj ((aj ((aj ((aj ((aj ((aj (x3.1+1))+1))+1))+1))+1))+1))+1))+1)) e50.When.Parts) e50.Within e50.Repair)) hrw51) ee 0 rfl)) ?_
  try rw[←fu hrw51 (f:=ah) (xs:=rw42)]
  refine cq 11 [1,81,82] [I (aj ((aj ((aj ((aj ((aj ((aj ((aj ((aj ((aj (x3.1+1))+1))+1))+1))+1))+1))+1))+1))+1)),.hs 1 0 [] 12 0 (rw51.map ah).length,I x3.2.1] 1490 ?_
  obtain⟨e60,he60,h⟩:=bS h
  refine oq 1506 (.hp 1 0 [] 12 (0+Int.toNat x3.2.1) 0) rfl (an rfl rfl rfl (dG (f:=ah) (xs:=rw51) rfl rfl rfl he60)) ?_
  refine cq 2 [85] [.hp 1 0 [] 12 (0+Int.toNat x3.2.1) 9] 1538 ?_
  refine oq 1554 (.hs 1 0 [((0+Int.toNat x3.2.1),9)] 4 0 (e60.When.Parts.map ae).length) rfl (cQ rfl (iH (path:=[]) rfl rfl rfl aG (cX (f:=ah) (xs:=rw51) he60) rfl rfl rfl)) ?_
  refine cq 1 [87] [I (aj ((aj ((aj ((aj ((aj ((aj ((aj ((aj ((aj (x3.1+1))+1))+1))+1))+1))+1))+1))+1))+1))] 1570 ?_
  obtain⟨r61,hr61,h⟩:=bS h
  obtain⟨g62,h⟩:=gG h
  obtain⟨rw63,hrw63,h⟩:=lJ h
  refine oq 1586 (I r61.1) rfl (aV rfl rfl (bq rfl rfl rfl (fk (eY rfl (dD (path:=[((0+Int.toNat x3.2.1),9)]) rfl rfl (gZ (cX (f:=ah) (xs:=rw51) he60) rfl aG) rfl)) (bi (bI rfl) cu)) (Vl hr61) (.inr rfl) (fP rfl rfl rfl (Mu (gZ (cX (f:=ah) (xs:=rw51) he60) rfl aG) (jV (f:=ae) (xs:=e60.When.Parts) (ys:=r61.2) g62).symm (M3 (cX (f:=ah) (xs:=rw51) he60) rfl ee (rfl:(_:V)=.agg [str e60.Id,I e60.Kind,I e60.Party,str e60.Action,I e60.Other,I e60.Amount,I e60.When.Op,str e60.When.Name,I e60.When.Day,.usl 4 (r61.2.map ae),I e60.Within,str e60.Repair]) (iq (f:=ah) (xs:=rw51) (y:=(Clause.mk e60.Id e60.Kind e60.Party e60.Action e60.Other e60.Amount (Condition.mk e60.When.Op e60.When.Name e60.When.Day r61.2) e60.Within e60.Repair)) hrw63))) cG) rfl rfl rfl)) ?_
  try rw[jV (f:=ae) (xs:=e60.When.Parts) (ys:=r61.2) g62]
  try rw[←fu hrw63 (f:=ah) (xs:=rw51)]
  refine cq 7 [1,89,90,91] [I r61.1,.hs 1 0 [] 12 0 (rw63.map ah).length,I x3.2.1,I r61.1] 1650 ?_
  obtain⟨e73,he73,h⟩:=bS h
  refine oq 1666 (.hp 1 0 [] 12 (0+Int.toNat x3.2.1) 0) rfl (an rfl rfl rfl (dG (f:=ah) (xs:=rw63) rfl rfl rfl he73)) ?_
  refine cq 1 [93] [.hp 1 0 [] 12 (0+Int.toNat x3.2.1) 10] 1682 ?_
  obtain⟨rw74,hrw74,h⟩:=lJ h
  refine o0 1698 rfl rfl (fJ rfl rfl (eJ (path:=[]) (pl:=true) (e':=.agg [str e73.Id,I e73.Kind,I e73.Party,str e73.Action,I e73.Other,I e73.Amount,I e73.When.Op,str e73.When.Name,I e73.When.Day,.usl 4 (e73.When.Parts.map ae),I r61.1,str e73.Repair]) (es2':=(rw74).map ah) rfl (bu rfl) rfl rfl rfl aG (cX (f:=ah) (xs:=rw63) he73) rfl rfl rfl (iq (f:=ah) (xs:=rw63) (y:=(Clause.mk e73.Id e73.Kind e73.Party e73.Action e73.Other e73.Amount e73.When r61.1 e73.Repair)) hrw74) ee 1 rfl)) ?_
  try rw[←fu hrw74 (f:=ah) (xs:=rw63)]
  refine cq 12 [1,96,97,98] [I (aj (r61.1+1)),.hs 1 0 [] 12 0 (rw74.map ah).length,I x3.2.1,I (aj (r61.1+1))] 1794 ?_
  obtain⟨r85,hr85,h⟩:=bS h
  refine oq 1810 (str r85) rfl (cP (rV hr85)) ?_
  obtain⟨e86,he86,h⟩:=bS h
  refine oq 1826 (.hp 1 0 [] 12 (0+Int.toNat x3.2.1) 0) rfl (an rfl rfl rfl (dG (f:=ah) (xs:=rw74) rfl rfl rfl he86)) ?_
  refine cq 1 [101] [.hp 1 0 [] 12 (0+Int.toNat x3.2.1) 11] 1842 ?_
  obtain⟨rw87,hrw87,h⟩:=lJ h
  refine o0 1858 rfl rfl (fJ rfl rfl (eJ (path:=[]) (pl:=true) (e':=.agg [str e86.Id,I e86.Kind,I e86.Party,str e86.Action,I e86.Other,I e86.Amount,I e86.When.Op,str e86.When.Name,I e86.When.Day,.usl 4 (e86.When.Parts.map ae),I e86.Within,str r85]) (es2':=(rw87).map ah) rfl (bu rfl) rfl rfl rfl aG (cX (f:=ah) (xs:=rw74) he86) rfl rfl rfl (iq (f:=ah) (xs:=rw74) (y:=(Clause.mk e86.Id e86.Kind e86.Party e86.Action e86.Other e86.Amount e86.When e86.Within r85)) hrw87) ee 1 rfl)) ?_
  try rw[←fu hrw87 (f:=ah) (xs:=rw74)]
  refine cq 12 [1,5] [I (aj ((aj (r61.1+1))+1)),I (aj (x3.2.1+1))] 1954 ?_
  refine dF ?_
  exact rf [0,1,5] [1] (ih _ _ h hr hn :)
 ·refine aq 1 ?_
  exact rf [1] [1] (hn _ (ap h) :) (hk:=hK)
theorem QO (a_7:List Clause)(k_8:Int)(r:Int×(List Clause))(h:yM a_7 k_8=some r):bP Hz Tryz.f52 [true,false] 1 (AW (a_7,k_8)) (AX r):=by
 show Run _ _ (Nv (a_7,k_8) r) [.code Nw] _
 refine rI 105 [(0,.hs 1 0 [] 12 0 (a_7.map ah).length),(1,I k_8)] [(1,some ⟨0,12,a_7.map ah⟩)] 2 ?_
 unfold yM at h
 refine cq 10 [5] [I (0)] 34 ?_
 obtain⟨y99,hy99,hy991,hy992⟩:=bJ h
 refine b7 rfl ?_
 refine rf [0,1,5] [1] (JY a_7 k_8 rfl (k_8,0,a_7) _ hy99 (fun r' e st hq=>by rw[hy991 r' e] at hq;exact hq) fun u99 hu=>?_)
 replace h:=hy992 u99 hu
 refine cq 5 [4] [I u99.1] 34 ?_
 obtain⟨g100,h⟩:=gG h
 obtain rfl:=sI h
 exact bX rfl ⟨_,fin (vs:=[I u99.1]) rfl (d8 (bu rfl) dX) rfl (kb rfl (D1 (f:=ah) (xs:=u99.2) (by simpa using g100) rfl) (d9 eC)),MP ez⟩
theorem Nx {G:cM}:cH G 52 yN:=gT 2 1 (aR uE (aR NA bU)) cW Tryz.func52 (fun a r h=>QO a.1 a.2 r h)
def A3:(Contract×Int)→List V:=cA ph (oA I)
def A4 (r:Int):V×List V:=(I r,[.dead])
noncomputable def yQ :=bx [true,false] A3 A4 fun x=>yP x.1 x.2
theorem Vm {a_7:Contract}{k_8:Int}{r}(h:yP a_7 k_8=some r):yQ.F (A3 (a_7,k_8))=some (A4 r):=aP (bp xg (aQ cf)) h
noncomputable def Vo :=aJ Tryz.f18
noncomputable def NB :=cV [(51,yU),(52,yN)]
def Vn (x:Contract×Int)(r:Int):St→Prop:=QF NB Tryz.f18 [true,false] (A3 x) (A4 r)
theorem QR (a_7:Contract)(k_8:Int)(r:Int)(h:yP a_7 k_8=some r):bP NB Tryz.f18 [true,false] 2 (A3 (a_7,k_8)) (A4 r):=by
 show Run _ _ (Vn (a_7,k_8) r) [.code Vo] _
 refine rI 14 [(0,.agg [.hs 1 0 [] 1 0 (a_7.Parties.map str).length,.hs 2 0 [] 12 0 (a_7.Clauses.map ah).length]),(1,I k_8)] [(1,some ⟨0,1,a_7.Parties.map str⟩),(2,some ⟨0,12,a_7.Clauses.map ah⟩)] 3 ?_
 unfold yP at h
 refine aq 2 ?_
 refine oq 19 (.hp 3 0 [] 2 0 0) rfl (Wz rfl (qj (dh (dm rfl rfl) (dh (dm rfl rfl) qk))) rfl) ?_
 refine cq 7 [6,7] [.hs 3 0 [(0,0)] 1 0 (a_7.Parties.map str).length,I k_8] 83 ?_
 obtain⟨r3,hr3,h⟩:=bS h
 obtain⟨g4,h⟩:=gG h
 refine oq 99 (I r3.1) rfl (aV rfl rfl (bq rfl rfl rfl (fk (eY rfl (dD (path:=[(0,0)]) rfl rfl (gZ rfl rfl aG) rfl)) (bi (bI rfl) cu)) (Vq hr3) (.inr rfl) (fP rfl rfl rfl (Mu (gZ rfl rfl aG) (jV (f:=str) (xs:=a_7.Parties) (ys:=r3.2) g4).symm (M3 rfl rfl ee (rfl:(_:V)=.agg [.usl 1 (r3.2.map str),.usl 12 (a_7.Clauses.map ah)]) rfl)) cG) rfl rfl rfl)) ?_
 try rw[jV (f:=str) (xs:=a_7.Parties) (ys:=r3.2) g4]
 refine ck 7 [10,11] [1] [] [] [.hs 3 1 [(0,1)] 12 0 (a_7.Clauses.map ah).length,I r3.1] [] 163 (by kernel_rfl) ?_
 obtain⟨r5,hr5,h⟩:=bS h
 obtain⟨g6,h⟩:=gG h
 refine oq 179 (I r5.1) rfl (aV rfl rfl (bq rfl rfl rfl (fk (eY rfl (dD (path:=[(0,1)]) rfl rfl (gZ rfl rfl aG) rfl)) (bi (bI rfl) cu)) (Vk hr5) (.inr rfl) (fP rfl rfl rfl (Mu (gZ rfl rfl aG) (jV (f:=ah) (xs:=a_7.Clauses) (ys:=r5.2) g6).symm (M3 rfl rfl ee (rfl:(_:V)=.agg [.usl 1 (r3.2.map str),.usl 12 (r5.2.map ah)]) rfl)) cG) rfl rfl rfl)) ?_
 try rw[jV (f:=ah) (xs:=a_7.Clauses) (ys:=r5.2) g6]
 refine cq 7 [4] [I r5.1] 227 ?_
 obtain rfl:=sI h
 exact bX rfl ⟨_,fin (vs:=[I r5.1]) rfl (d8 (bu rfl) dX) rfl (X3 (mc (iW rfl) (mc (iW rfl) mn)) (d9 eC)),mb ez⟩
theorem NC {G:cM}:cH G 18 yQ:=gT 2 2 (aR NI (aR Nx bU)) cW Tryz.func18 (fun a r h=>QR a.1 a.2 r h)
def A5:((List Int)×Int)→List V:=cA (po 1 I) (oA I)
def A6 (r:Int×(List Int)):V×List V:=(I r.1,[.usl 1 (r.2.map I)])
noncomputable def yS :=bx [true,false] A5 A6 fun x=>yR x.1 x.2
theorem Vp {a_6:List Int}{k_7:Int}{r}(h:yR a_6 k_7=some r):yS.F (A5 (a_6,k_7))=some (A6 r):=aP (bp (fW cf) (aQ cf)) h
noncomputable def NE :=aJ Tryz.f19
noncomputable def HB :=cV []
def ND (x:(List Int)×Int)(r:Int×(List Int)):St→Prop:=QF HB Tryz.f19 [true,false] (A5 x) (A6 r)
theorem J0 (a_6:List Int)(k_7:Int):cJ HB 1 (ND (a_6,k_7)) (cL (cL (cR (cL (cR NE))))) 0 (rT a_6 k_7) (fun u=>(sT 19 [(1,I u.1)] [⟨0,1,u.2.map I⟩] 2)) fun x3=>(sT 19 [(0,.hs 1 0 [] 1 0 (x3.2.2.map I).length),(1,I x3.1),(5,I x3.2.1)] [⟨0,1,x3.2.2.map I⟩] 2):=eF (xo a_6 k_7) fun {Q K} hK self ih x3 y h hr hn=>by
 unfold kr at h
 refine cq 5 [6,7] [I x3.2.1,.hs 1 0 [] 1 0 (x3.2.2.map I).length] 34 ?_
 refine oq 50 (I (len x3.2.2)) rfl (bG rfl rfl rfl (gL (f:=I) (xs:=x3.2.2) rfl rfl)) ?_
 refine cq 2 [9] [B (decide (x3.2.1<(len x3.2.2)))] 66 ?_
 refine sq h ?_ ?_<;>intro h
 ·refine aq 1 ?_
  refine cq 7 [12,13,14] [.hs 1 0 [] 1 0 (x3.2.2.map I).length,I x3.2.1,I x3.1] 114 ?_
  obtain⟨e4,he4,h⟩:=bS h
  refine oq 130 (.hp 1 0 [] 1 (0+Int.toNat x3.2.1) 0) rfl (an rfl rfl rfl (dG (f:=I) (xs:=x3.2.2) rfl rfl rfl he4)) ?_
  refine o0 146 rfl rfl (fJ rfl rfl (eJ (path:=[]) (pl:=true) (e':=I x3.1) (es2':=(cT x3.2.2 x3.2.1 x3.1).map I) rfl (bu rfl) rfl rfl rfl aG (cX (f:=I) (xs:=x3.2.2) he4) rfl rfl rfl (jY (f:=I) (xs:=x3.2.2) (y:=x3.1)) ee 0 rfl)) ?_
  try rw[←ij (f:=I) (xs:=x3.2.2) (i:=x3.2.1) (z:=x3.1)]
  refine cq 12 [1,5] [I (aj (x3.1+1)),I (aj (x3.2.1+1))] 242 ?_
  refine dF ?_
  exact rf [0,1,5] [1] (ih _ _ h hr hn :)
 ·refine aq 1 ?_
  exact rf [1] [1] (hn _ (ap h) :) (hk:=hK)
theorem QS (a_6:List Int)(k_7:Int)(r:Int×(List Int))(h:yR a_6 k_7=some r):bP HB Tryz.f19 [true,false] 1 (A5 (a_6,k_7)) (A6 r):=by
 show Run _ _ (ND (a_6,k_7) r) [.code NE] _
 refine rI 19 [(0,.hs 1 0 [] 1 0 (a_6.map I).length),(1,I k_7)] [(1,some ⟨0,1,a_6.map I⟩)] 2 ?_
 unfold yR at h
 refine cq 10 [5] [I (0)] 34 ?_
 obtain⟨y5,hy5,hy51,hy52⟩:=bJ h
 refine b7 rfl ?_
 refine rf [0,1,5] [1] (J0 a_6 k_7 rfl (k_7,0,a_6) _ hy5 (fun r' e st hq=>by rw[hy51 r' e] at hq;exact hq) fun u5 hu=>?_)
 replace h:=hy52 u5 hu
 refine cq 5 [4] [I u5.1] 34 ?_
 obtain⟨g6,h⟩:=gG h
 obtain rfl:=sI h
 exact bX rfl ⟨_,fin (vs:=[I u5.1]) rfl (d8 (bu rfl) dX) rfl (kb rfl (D1 (f:=I) (xs:=u5.2) (by simpa using g6) rfl) (d9 eC)),MP ez⟩
theorem NF {G:cM}:cH G 19 yS:=gT 2 1 bU cW Tryz.func19 (fun a r h=>QS a.1 a.2 r h)
def AR:((List Int)×Int)→List V:=cA (lc I) (oA I)
def AU (r:Int):V×List V:=(I r,[])
noncomputable def yL :=bx [false,false] AR AU fun x=>uA x.1 x.2
theorem Nr {a_1:List Int}{k_2:Int}{r}(h:uA a_1 k_2=some r):yL.F (AR (a_1,k_2))=some (AU r):=aP (bp (d6 cf) (aQ cf)) h
noncomputable def Nt :=aJ Tryz.f20
noncomputable def Hy :=cV []
def Ns (x:(List Int)×Int)(r:Int):St→Prop:=QF Hy Tryz.f20 [false,false] (AR x) (AU r)
theorem JX (a_1:List Int)(k_2:Int):cJ Hy 0 (Ns (a_1,k_2)) (cL (cL (cR (cL (cR Nt))))) 0 (rR a_1 k_2) (fun u=>(sT 21 [(1,I u)] [] 1)) fun x3=>(sT 21 [(0,.isl false (a_1.map I)),(1,I x3.1),(5,I x3.2)] [] 1):=eF (xl a_1 k_2) fun {Q K} hK self ih x3 y h hr hn=>by
 unfold kn at h
 refine cq 5 [6,7] [I x3.2,.isl false (a_1.map I)] 33 ?_
 refine oq 49 (I (len a_1)) rfl (bG rfl rfl rfl (cF rfl)) ?_
 refine cq 2 [9] [B (decide (x3.2<(len a_1)))] 65 ?_
 refine sq h ?_ ?_<;>intro h
 ·refine aq 1 ?_
  refine cq 7 [12,13] [.isl false (a_1.map I),I x3.2] 97 ?_
  obtain⟨e4,he4,h⟩:=bS h
  refine oq 113 (.iptr (I e4) 0) rfl (an rfl rfl rfl (bC rfl rfl rfl rfl he4)) ?_
  refine cq 4 [17] [B (e4 != x3.1)] 161 ?_
  refine sq h ?_ ?_<;>intro h
  ·refine cq 4 [4] [I (-1)] 177 ?_
   exact bX rfl (hr _ (ap h) _ (qp [I (-1)]))
  ·refine aq 1 ?_
   refine cq 11 [1,5] [I (aj (x3.1+1)),I (aj (x3.2+1))] 257 ?_
   refine dF ?_
   exact rf [0,1,5] [] (ih _ _ h hr hn :)
 ·refine aq 1 ?_
  exact rf [1] [] (hn _ (ap h) :) (hk:=hK)
theorem QN (a_1:List Int)(k_2:Int)(r:Int)(h:uA a_1 k_2=some r):bP Hy Tryz.f20 [false,false] 0 (AR (a_1,k_2)) (AU r):=by
 show Run _ _ (Ns (a_1,k_2) r) [.code Nt] _
 refine rI 21 [(0,.isl false (a_1.map I)),(1,I k_2)] [] 1 ?_
 unfold uA at h
 refine cq 10 [5] [I (0)] 33 ?_
 obtain⟨y5,hy5,hy51,hy52⟩:=bJ h
 refine b7 rfl ?_
 refine rf [0,1,5] [] (JX a_1 k_2 rfl (k_2,0) _ hy5 (fun r' e st hq=>by rw[hy51 r' e] at hq;exact hq) fun u5 hu=>?_)
 replace h:=hy52 u5 hu
 refine cq 5 [4] [I u5] 33 ?_
 obtain rfl:=sI h
 exact rP [I u5]
theorem Nu {G:cM}:cH G 20 yL:=gT 2 0 bU cW Tryz.func20 (fun a r h=>QN a.1 a.2 r h)
def eS:Contract→List V:=oA aI
def eT (r:Bool):V×List V:=(B r,[])
noncomputable def fK :=bx [false] eS eT fun x=>d7 x
theorem nH {f6:Contract}{r}(h:d7 f6=some r):fK.F (eS f6)=some (eT r):=aP (aQ bB) h
noncomputable def dV :=aJ Tryz.f3
noncomputable abbrev eQ :=cR (cR (cR (cR (cR (cR (cR (cR (cR (cR (cR (cR dV)))))))))))
noncomputable abbrev iG :=cR (cL (cR (cR (cR (cR (cR (cR (cR (cR (cR (cR (cR dV))))))))))))
noncomputable def dU :=cV [(12,zb),(14,zk),(13,zt),(15,Ep),(16,yI),(17,yH),(18,yQ),(19,yS),(20,yL)]
def dz (x:Contract)(r:Bool):St→Prop:=QF dU Tryz.f3 [false] (eS x) (eT r)
theorem mO (f6:Contract)(r:Bool)(h:d7 f6=some r):bP dU Tryz.f3 [false] 0 (eS f6) (eT r):=by
 show Run _ _ (dz f6 r) [.code dV] _
 refine rI 96 [(0,aI f6)] [] 1 ?_
 unfold d7 at h
 refine ck 13 [1,14,15] [] [1] [] [.hp 1 0 [] 2 0 0,aI f6,I (1048576)] [some ⟨0,2,[aI f6]⟩] 81 (by kernel_rfl) ?_
 obtain⟨r2,hr2,h⟩:=bS h
 refine oq 97 (I r2) rfl (cP (Vz hr2)) ?_
 refine cq 8 [18] [B (decide (r2<0))] 145 ?_
 refine sq h ?_ ?_<;>intro h
 ·refine cq 4 [2] [B true] 161 ?_
  obtain rfl:=sI h
  exact rP [B true]
 ·refine aq 1 ?_
  refine cq 3 [20] [aI f6] 161 ?_
  obtain⟨r3,hr3,h⟩:=bS h
  refine oq 177 (.agg [.hs 161 0 [] 1 0 (r3.Parties.map str).length,.hs 162 0 [] 12 0 (r3.Clauses.map ah).length]) rfl (cP (uN hr3)) ?_
  obtain⟨r4,hr4,h⟩:=bS h
  refine oq 193 (.tup [.hs 177 0 [] 1 0 (r4.1.map I).length,B r4.2]) rfl (aV rfl rfl (bq rfl rfl rfl (bi (Ei (la (eR (f:=str) (g:=str) (xs:=r3.Parties) rfl rfl (dB gw)) (la (eR (f:=ah) (g:=ao) (xs:=r3.Clauses) rfl rfl (dB fS)) yx))) cu) (VT hr4) (.inl (by simp[cy,cZ,str,oe (f:=I) Dy])) cG rfl rfl rfl)) ?_
  refine cq 9 [4,5,25] [.hs 177 0 [] 1 0 (r4.1.map I).length,B r4.2,aI f6] 289 ?_
  obtain⟨r5,hr5,h⟩:=bS h
  refine oq 305 (.agg [.hs 289 0 [] 1 0 (r5.Parties.map str).length,.hs 290 0 [] 12 0 (r5.Clauses.map ah).length]) rfl (cP (uN hr5)) ?_
  refine ck 1 [6] [] [305] [] [.hp 305 0 [] 2 0 0] [some ⟨0,2,[.agg [.isl true [],.isl true []]]⟩] 321 (by kernel_rfl) ?_
  refine fx 305 [.agg [.usl 1 (([]).map str),.usl 12 (([]).map ah)]] rfl rfl (az (gf (az (.nil _) (az (.nil _) eh))) eh) ?_
  refine o0 337 rfl rfl (fJ rfl rfl (eJ (path:=[]) (pl:=false) (e':=jH r5) (es2':=[jH r5]) rfl (qj (dh (dm rfl rfl) (dh (dm rfl rfl) qk))) rfl rfl rfl aG rfl rfl rfl rfl rfl ee 2 rfl)) ?_
  refine cq 4 [28] [.agg [.hs 305 2 [(0,0)] 1 0 (r5.Parties.map str).length,.hs 305 2 [(0,1)] 12 0 (r5.Clauses.map ah).length]] 353 ?_
  obtain⟨r6,hr6,h⟩:=bS h
  refine oq 369 (.tup [.hs 353 0 [] 1 0 (r6.1.map I).length,B r6.2]) rfl (aV rfl rfl (bq rfl rfl rfl (bi (Ei (la (wX (path:=[(0,0)]) rfl rfl (gZ rfl rfl aG) rfl (dB (f:=str) gw)) (la (wX (path:=[(0,1)]) rfl rfl (gZ rfl rfl aG) rfl (dB (f:=ah) fS)) yx))) cu) (S9 hr6) (.inl (by simp[cy,cZ,str,oe (f:=I) Dy])) cG rfl rfl rfl)) ?_
  refine cq 11 [7,8,32,33] [.hs 353 0 [] 1 0 (r6.1.map I).length,B r6.2,.hs 353 0 [] 1 0 (r6.1.map I).length,.hs 177 0 [] 1 0 (r4.1.map I).length] 481 ?_
  obtain⟨r7,hr7,h⟩:=bS h
  refine oq 497 (B r7) rfl (aV rfl rfl (bq rfl rfl rfl (bi (pm rfl rfl (eR (f:=I) (g:=I) (xs:=r6.1) rfl rfl (dB qL))) (bi (pm rfl rfl (eR (f:=I) (g:=I) (xs:=r4.1) rfl rfl (dB qL))) cu)) (Hw hr7) (.inl rfl) cG rfl rfl rfl)) ?_
  refine cq 2 [36] [B (!r7)] 529 ?_
  obtain⟨u8,hu8,h⟩:=lJ h
  have j8:Run dU 0 (dz f6 r) (.code (cR (cL (cR (cR (cR (cR (cR (cR (cR dV)))))))))::.code (cR (cR (cR (cR (cR (cR (cR (cR dV))))))))::[]) (sT 96 [(1,.hp 1 0 [] 2 0 0),(4,.hs 2 0 [] 1 0 (r4.1.map I).length),(5,B r4.2),(6,.hp 3 0 [] 2 0 0),(7,.hs 4 0 [] 1 0 (r6.1.map I).length),(8,B r6.2),(40,B u8)] [⟨0,2,[aI f6]⟩,⟨0,1,r4.1.map I⟩,⟨0,2,[jH r5]⟩,⟨0,1,r6.1.map I⟩] 5):=by
   refine sq h ?_ ?_<;>intro h
   ·refine cq 4 [2] [B false] 21 ?_
    obtain rfl:=sI h
    exact rP [B false]
   ·refine aq 1 ?_
    refine aq 2 ?_
    refine fp [0,0,2,7,15] rfl (by decide +kernel) ?_
    refine dq [3] [] (.agg [.hs 3 0 [(0,0)] 1 0 (r5.Parties.map str).length,.hs 3 0 [(0,1)] 12 0 (r5.Clauses.map ah).length]) rfl (cQ rfl rfl) ?_
    refine dq [1] [] (aI f6) rfl (cQ rfl rfl) ?_
    obtain⟨r9,hr9,h⟩:=bS h
    refine dq [] [] (.agg [.hs 37 0 [] 1 0 (r9.Parties.map str).length,.hs 38 0 [] 12 0 (r9.Clauses.map ah).length]) rfl (cP (uN hr9)) ?_ (dW rfl rfl rfl rfl (bi (bI rfl) cu) (uN hr9) (.inr rfl) rfl)
    obtain⟨r10,hr10,h⟩:=bS h
    refine dq [3,3,37,38] [] (B r10) rfl (aV rfl rfl (bq rfl rfl rfl (bi (Ei (la (wX (path:=[(0,0)]) rfl rfl (gZ rfl rfl aG) rfl (dB (f:=str) gw)) (la (wX (path:=[(0,1)]) rfl rfl (gZ rfl rfl aG) rfl (dB (f:=ah) fS)) yx))) (bi (Ei (la (eR (f:=str) (g:=str) (xs:=r9.Parties) rfl rfl (dB gw)) (la (eR (f:=ah) (g:=ao) (xs:=r9.Clauses) rfl rfl (dB fS)) yx))) cu)) (Nj hr10) (.inl rfl) cG rfl rfl rfl)) ?_ (dW rfl rfl rfl rfl (bi (Ei (la (wX (path:=[(0,0)]) rfl rfl (gZ rfl rfl aG) rfl (dB (f:=str) gw)) (la (wX (path:=[(0,1)]) rfl rfl (gZ rfl rfl aG) rfl (dB (f:=ah) fS)) yx))) (bi (Ei (la (eR (f:=str) (g:=str) (xs:=r9.Parties) rfl rfl (dB gw)) (la (eR (f:=ah) (g:=ao) (xs:=r9.Clauses) rfl rfl (dB fS)) yx))) cu)) (Nj hr10) (.inl rfl) rfl)
    refine dk 1 [45] [B (!r10)] ?_
    refine de 85 rfl rfl ?_
    refine sq h ?_ ?_<;>intro h
    ·refine cq 4 [2] [B false] 101 ?_
     obtain rfl:=sI h
     exact rP [B false]
    ·refine aq 1 ?_
     refine cq 8 [46,47] [.agg [.hs 3 0 [(0,0)] 1 0 (r5.Parties.map str).length,.hs 3 0 [(0,1)] 12 0 (r5.Clauses.map ah).length],I (1)] 133 ?_
     obtain⟨r11,hr11,h⟩:=bS h
     refine JF 46 0 (path:=[(0,0)]) (.agg [.hs 133 0 [] 1 0 (r5.Parties.map str).length,.hs 3 0 [(0,1)] 12 0 (r5.Clauses.map ah).length]) 149 rfl rfl rfl rfl rfl (gZ rfl rfl aG) (rL (path:=[]) (i:=0) (k:=0) (e':=.agg [.dead,.usl 12 (r5.Clauses.map ah)]) (es2':=[.agg [.dead,.usl 12 (r5.Clauses.map ah)]]) aG rfl rfl rfl ee) rfl rfl ?_
     refine JF 46 1 (path:=[(0,1)]) (.agg [.hs 133 0 [] 1 0 (r5.Parties.map str).length,.hs 149 0 [] 12 0 (r5.Clauses.map ah).length]) 165 rfl rfl rfl rfl rfl (gZ rfl rfl aG) (rL (path:=[]) (i:=0) (k:=1) (e':=.agg [.dead,.dead]) (es2':=[.agg [.dead,.dead]]) aG rfl rfl rfl ee) rfl rfl ?_
     refine oq 181 (I r11) rfl (aV rfl rfl (bq rfl rfl rfl (fk (X5 (XR (dD (path:=[]) rfl rfl aG rfl) (XR (dD (path:=[]) rfl rfl aG rfl) X6))) (bi (bI rfl) cu)) (Vm hr11) (.inr rfl) (fP rfl rfl rfl eq (XU rfl rfl rfl cG)) rfl rfl rfl)) ?_
     refine cq 8 [51] [B (decide (r11<0))] 245 ?_
     obtain⟨y12,hy12,hy121,hy122⟩:=bJ h
     have j12:∀u12,y12=.inr u12→Run dU 0 (dz f6 r) (.code iG::.code eQ::[]) (sT 96 [(1,.hp 1 0 [] 2 0 0),(4,.hs 2 0 [] 1 0 (r4.1.map I).length),(5,B r4.2),(7,.hs 3 0 [] 1 0 (r6.1.map I).length),(61,B u12)] [⟨0,2,[aI f6]⟩,⟨0,1,r4.1.map I⟩,⟨0,1,r6.1.map I⟩] 4):=by
      intro u12 hu
      replace h:=hy122 u12 hu
      refine sq h ?_ ?_<;>intro h
      ·refine cq 4 [2] [B false] 20 ?_
       obtain rfl:=sI h
       exact rP [B false]
      ·refine aq 1 ?_
       refine cq 8 [62,63] [.hs 3 0 [] 1 0 (r6.1.map I).length,I (1)] 52 ?_
       obtain⟨r13,hr13,h⟩:=bS h
       obtain⟨g14,h⟩:=gG h
       refine oq 68 (I r13.1) rfl (aV rfl rfl (bq rfl rfl rfl (fk (eY rfl (dD (path:=[]) rfl rfl aG rfl)) (bi (bI rfl) cu)) (Vp hr13) (.inr rfl) (fP rfl rfl rfl rfl cG) rfl rfl rfl)) ?_
       try rw[jV (f:=I) (xs:=r6.1) (ys:=r13.2) g14]
       refine cq 10 [10,65,66] [I r13.1,.hs 3 0 [] 1 0 (r13.2.map I).length,I (1)] 132 ?_
       obtain⟨r15,hr15,h⟩:=bS h
       refine oq 148 (I r15) rfl (aV rfl rfl (bq rfl rfl rfl (bi (pm rfl rfl (eR (f:=I) (g:=I) (xs:=r13.2) rfl rfl (dB qL))) (bi (bI rfl) cu)) (Nr hr15) (.inl rfl) cG rfl rfl rfl)) ?_
       refine cq 8 [11,69] [I r15,B (decide (r15<0))] 196 ?_
       refine sq h ?_ ?_<;>intro h
       ·refine cq 4 [2] [B false] 212 ?_
        obtain rfl:=sI h
        exact rP [B false]
       ·refine aq 1 ?_
        refine cq 7 [72] [B (r15 != r13.1)] 244 ?_
        refine sq h ?_ ?_<;>intro h
        ·refine cq 4 [2] [B false] 260 ?_
         obtain rfl:=sI h
         exact rP [B false]
        ·refine aq 1 ?_
         refine cq 3 [74] [aI f6] 260 ?_
         obtain⟨r16,hr16,h⟩:=bS h
         refine oq 276 (.agg [.hs 260 0 [] 1 0 (r16.Parties.map str).length,.hs 261 0 [] 12 0 (r16.Clauses.map ah).length]) rfl (cP (uN hr16)) ?_
         obtain⟨r17,hr17,h⟩:=bS h
         refine oq 292 (.tup [.hs 276 0 [] 1 0 (r17.1.map I).length,B r17.2]) rfl (aV rfl rfl (bq rfl rfl rfl (bi (Ei (la (eR (f:=str) (g:=str) (xs:=r16.Parties) rfl rfl (dB gw)) (la (eR (f:=ah) (g:=ao) (xs:=r16.Clauses) rfl rfl (dB fS)) yx))) cu) (S9 hr17) (.inl (by simp[cy,cZ,str,oe (f:=I) Dy])) cG rfl rfl rfl)) ?_
         refine cq 11 [13,79,80] [B r17.2,.hs 276 0 [] 1 0 (r17.1.map I).length,.hs 2 0 [] 1 0 (r4.1.map I).length] 404 ?_
         obtain⟨r18,hr18,h⟩:=bS h
         refine oq 420 (B r18) rfl (aV rfl rfl (bq rfl rfl rfl (bi (pm rfl rfl (eR (f:=I) (g:=I) (xs:=r17.1) rfl rfl (dB qL))) (bi (pm rfl rfl (eR (f:=I) (g:=I) (xs:=r4.1) rfl rfl (dB qL))) cu)) (Hw hr18) (.inl rfl) cG rfl rfl rfl)) ?_
         refine cq 2 [83] [B (!r18)] 452 ?_
         obtain⟨u19,hu19,h⟩:=lJ h
         have j19:Run dU 0 (dz f6 r) (.code (cR (cL (cR (cR (cR (cR (cR (cR (cR eQ)))))))))::.code (cR (cR (cR (cR (cR (cR (cR (cR eQ))))))))::[]) (sT 96 [(7,.hs 1 0 [] 1 0 (r13.2.map I).length),(10,I r13.1),(87,B u19)] [⟨0,1,r13.2.map I⟩] 2):=by
          refine sq h ?_ ?_<;>intro h
          ·refine cq 4 [2] [B false] 18 ?_
           obtain rfl:=sI h
           exact rP [B false]
          ·refine aq 1 ?_
           refine cq 8 [88,89] [.hs 1 0 [] 1 0 (r13.2.map I).length,I (1)] 50 ?_
           obtain⟨r20,hr20,h⟩:=bS h
           refine oq 66 (I r20) rfl (aV rfl rfl (bq rfl rfl rfl (bi (pm rfl rfl (eR (f:=I) (g:=I) (xs:=r13.2) rfl rfl (dB qL))) (bi (bI rfl) cu)) (Nr hr20) (.inl rfl) cG rfl rfl rfl)) ?_
           refine cq 8 [11,92] [I r20,B (decide (r20<0))] 114 ?_
           refine sq h ?_ ?_<;>intro h
           ·refine cq 4 [2] [B false] 130 ?_
            obtain rfl:=sI h
            exact rP [B false]
           ·refine aq 1 ?_
            refine cq 7 [95] [B (r20 != r13.1)] 162 ?_
            refine sq h ?_ ?_<;>intro h
            ·refine cq 4 [2] [B false] 178 ?_
             obtain rfl:=sI h
             exact rP [B false]
            ·refine aq 1 ?_
             refine cq 4 [2] [B true] 178 ?_
             obtain rfl:=sI h
             exact rP [B true]
         replace h:=hu19
         clear hu19
         refine sp 83 h rfl ?_ ?_<;>intro h
         ·refine cq 5 [87] [B true] 516 ?_
          subst h
          exact rf [7,10,87] [3] (j19 :)
         ·refine cq 5 [87] [B (!(r17.2==r4.2))] 516 ?_
          subst h
          exact rf [7,10,87] [3] (j19 :)
     have r12:∀r',y12=.inl r'→∀st,dz f6 r' st→(dz f6 r) st:=fun r' e st hq=>by rw[hy121 r' e] at hq;exact hq
     replace h:=hy12
     refine sp 51 h rfl ?_ ?_<;>intro h
     ·refine cq 11 [61] [B true] 405 ?_
      exact rf [1,4,5,7,61] [1,2,4] (j12 _ (ap h) :)
     ·refine cq 2 [52,53] [.hs 4 0 [] 1 0 (r6.1.map I).length,.hs 2 0 [] 1 0 (r4.1.map I).length] 277 ?_
      obtain⟨r21,hr21,h⟩:=bS h
      refine oy 293 (B r21) rfl (aV rfl rfl (bq rfl rfl rfl (bi (pm rfl rfl (eR (f:=I) (g:=I) (xs:=r6.1) rfl rfl (dB qL))) (bi (pm rfl rfl (eR (f:=I) (g:=I) (xs:=r4.1) rfl rfl (dB qL))) cu)) (Hw hr21) (.inl rfl) cG rfl rfl rfl)) ?_
      refine cq 3 [57] [B (!r21)] 341 ?_
      obtain⟨u22,hu22,h⟩:=lJ h
      have j22:Run dU 0 (dz f6 r) (.code iG::.code eQ::[]) (sT 96 [(1,.hp 1 0 [] 2 0 0),(4,.hs 2 0 [] 1 0 (r4.1.map I).length),(5,B r4.2),(7,.hs 3 0 [] 1 0 (r6.1.map I).length),(61,B u22)] [⟨0,2,[aI f6]⟩,⟨0,1,r4.1.map I⟩,⟨0,1,r6.1.map I⟩] 4):=by
       exact rf [1,4,5,7,61] [1,2,3] (j12 _ (ap h) :)
      replace h:=hu22
      clear hu22
      refine sp 57 h rfl ?_ ?_<;>intro h
      ·refine cq 5 [61] [B true] 405 ?_
       subst h
       exact rf [1,4,5,7,61] [1,2,4] (j22 :)
      ·refine cq 5 [61] [B (!(r6.2==r4.2))] 405 ?_
       subst h
       exact rf [1,4,5,7,61] [1,2,4] (j22 :)
  replace h:=hu8
  clear hu8
  refine sp 36 h rfl ?_ ?_<;>intro h
  ·refine cq 5 [40] [B true] 593 ?_
   subst h
   exact rf [1,4,5,6,7,8,40] [1,177,305,353] (j8 :)
  ·refine cq 5 [40] [B (!(r6.2==r4.2))] 593 ?_
   subst h
   exact rf [1,4,5,6,7,8,40] [1,177,305,353] (j8 :)
theorem md {G:cM}:cH G 3 fK:=gT 1 0 (aR NW (aR Ob (aR Ot (aR QH (aR Nn (aR Nk (aR NC (aR NF (aR Nu bU))))))))) cW Tryz.func3 (fun a r h=>mO a r h)
end Go.Ln
